/- Walks, printed by a program of mine (gen.py) out of the functions. -/
import Derived.Test.YtlkmdoebmklbbaaS
namespace Go.Proofs.Ytlkmdoebmklbbaa
open Go.RowKit Go.Dw
set_option maxRecDepth 100000
set_option maxHeartbeats 4000000
set_option linter.unusedSimpArgs false
set_option linter.unusedVariables false
theorem es_33 : elemSz Try.prog 33 = some 1 := by kernel_rfl
theorem es_43 : elemSz Try.prog 43 = some 1 := by kernel_rfl
theorem fo_121_0 : fieldOff Try.prog 121 0 = some 0 := by kernel_rfl
theorem fo_121_1 : fieldOff Try.prog 121 1 = some 1 := by kernel_rfl
theorem gf_19 : goFn Try.prog 19 = true := by kernel_rfl
theorem gf_59 : goFn Try.prog 59 = true := by kernel_rfl
theorem gf_60 : goFn Try.prog 60 = true := by kernel_rfl
theorem gf_61 : goFn Try.prog 61 = true := by kernel_rfl
theorem gf_62 : goFn Try.prog 62 = true := by kernel_rfl
theorem ot_33 : oneTy Try.prog 33 = true := by kernel_rfl
theorem ot_5 : oneTy Try.prog 5 = true := by kernel_rfl
theorem pick_c (p n : Int) (hp : 0 ≤ p ∧ p ≤ 1099511627776) (lo R : Nat) (bs : List Int) (a : Option Addr) (c : Nat) (w : World) (hR : Blk w R 121 #[.slice a bs.length c, .int .i64 p]) (hlo : lo ≤ R) (hs : SlLt lo w a 1 (bs.map bcell)) (hb : ∀ b ∈ bs, 0 ≤ b ∧ b ≤ 255) (hn : bs.length ≤ 1048576) : CallsR Try.prog 60 #[.pointer (some ⟨R, 0, none⟩), .int .i64 n] w (fun v w' => ∃ k : Int, v = .int .i64 k ∧ 0 ≤ k ∧ (k < n ∨ k = 0) ∧ Blk w' R 121 #[.slice a bs.length c, .int .i64 (p + 1)] ∧ w.grownBy w' (some R)) := by
 refine calls_of_wpf (n := 99) Try.func60 rfl Try.ntmps60 rfl ?_
 have hb0 := World.grownBy.refl w (some R)
 have hRlt := hR.lt
 refine wpf_seq_region ?_
 refine wpo_assign (v := .int .i64 0) rfl rfl ?_
 refine wpo_nil ?_
 refine wpf_seq_region ?_
 refine wpo_move (v := .pointer (some ⟨R, 0, none⟩)) rfl rfl ?_
 refine wpo_move (v := .pointer (some ⟨R, 0, none⟩)) rfl rfl ?_
 refine wpo_nilCheck rfl rfl ?_
 refine wpo_fieldAddr (o' := 1) fo_121_1 rfl rfl rfl ?_
 refine wpo_load1 (v := .int .i64 p) ot_3 rfl (hR.cell rfl) rfl ?_
 refine wpo_add (c := p + 1) rfl rfl (by omega) (by omega) (by omega) rfl ?_
 refine wpo_nilCheck rfl rfl ?_
 refine wpo_fieldAddr (o' := 1) fo_121_1 rfl rfl rfl ?_
 refine wpo_store1 (v := .int .i64 (p + 1)) (cs' := #[.slice a bs.length c, .int .i64 (p + 1)]) ot_3 rfl rfl rfl hR (Nat.le_of_ble_eq_true rfl) rfl ?_
 intro w2279 hS2280
 have hb2281 := grown_trans hb0 hS2280.grw
 refine wpo_nil ?_
 refine wpf_seq ?_
 refine wpf_seq_region_mid (fun f' w' => (f' 0 = .pointer (some ⟨R, 0, none⟩) ∧ f' 1 = .int .i64 n ∧ f' 4 = .int .i64 0 ∧ f' 24 = .bool ((decide (n < 1)) || (decide ((bs.length : Int) = 0)))) ∧ w2279 = w') ?_ ?_
 ·
  refine wpo_move (v := .int .i64 n) rfl rfl ?_
  refine wpo_lss (q := decide (n < 1)) rfl rfl rfl rfl ?_
  refine wpo_move (v := .bool (decide (n < 1))) rfl rfl ?_
  rcases bcases (decide (n < 1)) with h2282 | h2282
  ·
   have h2283 := of_decide_eq_true h2282
   iterate 6 refine wpo_pass rfl rfl rfl h2282 rfl ?_
   refine wpo_pickt (v := .bool true) rfl h2282 rfl rfl ?_
   exact wpo_nil ⟨⟨rfl, rfl, rfl, (congrArg Value.bool (by first | (simp only [h2282, b0, b1, b2, b3, b4, b5, b6, b7, b8, b9]; done) | simp [h2282]))⟩, rfl⟩
  ·
   have h2284 := of_decide_eq_false h2282
   refine wpo_run rfl rfl rfl h2282 ?_
   refine wpo_move (v := .pointer (some ⟨R, 0, none⟩)) rfl rfl ?_
   refine wpo_run rfl rfl rfl h2282 ?_
   refine wpo_nilCheck rfl rfl ?_
   refine wpo_run rfl rfl rfl h2282 ?_
   refine wpo_fieldAddr (o' := 0) fo_121_0 rfl rfl rfl ?_
   refine wpo_run rfl rfl rfl h2282 ?_
   refine wpo_load1 (v := .slice a bs.length c) ot_33 rfl (hS2280.blk.cell rfl) rfl ?_
   refine wpo_run rfl rfl rfl h2282 ?_
   refine wpo_len (by kernel_rfl) rfl rfl ?_
   refine wpo_run rfl rfl rfl h2282 ?_
   refine wpo_eql (q := decide ((bs.length : Int) = 0)) rfl rfl rfl rfl ?_
   refine wpo_pickf (v := .bool (decide ((bs.length : Int) = 0))) rfl h2282 rfl rfl ?_
   exact wpo_nil ⟨⟨rfl, rfl, rfl, (congrArg Value.bool (by first | (simp only [h2282, b0, b1, b2, b3, b4, b5, b6, b7, b8, b9]; done) | simp [h2282]))⟩, rfl⟩
 ·
  rintro f2285 w2286 ⟨⟨e2287, e2288, e2289, e2290⟩, rfl⟩
  refine wpf_cond e2290 (fun h2291 => ?_) (fun h2291 => ?_)
  ·
   refine wpf_seq_region ?_
   refine wpo_assign (v := .int .i64 0) rfl rfl ?_
   refine wpo_nil ?_
   refine wpf_ret ?_
   refine thn_r ?_
   refine ⟨.int .i64 0, res1 rfl rfl, 0, rfl, by omega, by omega, hS2280.blk, hb2281⟩
  ·
   have h2292 := or_l h2291
   have h2293 := of_decide_eq_false h2292
   have h2294 := or_r h2291
   have h2295 := of_decide_eq_false h2294
   refine wpf_skip ?_
   refine thn_n ?_
   refine wpf_seq_region ?_
   refine wpo_move (v := .pointer (some ⟨R, 0, none⟩)) e2287 rfl ?_
   refine wpo_nilCheck rfl rfl ?_
   refine wpo_fieldAddr (o' := 1) fo_121_1 rfl rfl rfl ?_
   refine wpo_load1 (v := .int .i64 (p + 1)) ot_3 rfl (hS2280.blk.cell rfl) rfl ?_
   refine wpo_sub (c := (p + 1) - 1) rfl rfl (by omega) (by omega) (by omega) rfl ?_
   refine wpo_assign (v := .int .i64 ((p + 1) - 1)) rfl rfl ?_
   refine wpo_nil ?_
   refine wpf_seq ?_
   refine wpf_seq_region ?_
   refine wpo_move (v := .int .i64 ((p + 1) - 1)) rfl rfl ?_
   refine wpo_move (v := .pointer (some ⟨R, 0, none⟩)) e2287 rfl ?_
   refine wpo_nilCheck rfl rfl ?_
   refine wpo_fieldAddr (o' := 0) fo_121_0 rfl rfl rfl ?_
   refine wpo_load1 (v := .slice a bs.length c) ot_33 rfl (hS2280.blk.cell rfl) rfl ?_
   refine wpo_len (by kernel_rfl) rfl rfl ?_
   refine wpo_lss (q := decide ((p + 1) - 1 < (bs.length : Int))) rfl rfl rfl rfl ?_
   refine wpo_nil ?_
   refine wpf_cond rfl (fun h2296 => ?_) (fun h2296 => ?_)
   ·
    have h2297 := of_decide_eq_true h2296
    refine wpf_seq_region ?_
    refine wpo_move (v := .pointer (some ⟨R, 0, none⟩)) e2287 rfl ?_
    refine wpo_nilCheck rfl rfl ?_
    refine wpo_fieldAddr (o' := 0) fo_121_0 rfl rfl rfl ?_
    refine wpo_load1 (v := .slice a bs.length c) ot_33 rfl (hS2280.blk.cell rfl) rfl ?_
    refine wpo_move (v := .int .i64 ((p + 1) - 1)) rfl rfl ?_
    obtain ⟨x2298, hx2299⟩ := get_lt (l := bs) (i := ((p + 1) - 1).toNat) (by omega)
    obtain ⟨b2300, q2301, o2302, ha2303, ho2304, hne2306, hr2305⟩ := SlLt.at hs (map_get hx2299)
    have hbd2307 := hb x2298 (List.mem_of_getElem? hx2299)
    refine wpo_indexE es_33 rfl rfl ha2303 ho2304 (by omega) (by omega) rfl ?_
    refine wpo_load1 (v := .int .u8 x2298) ot_5 rfl ((range_grown hr2305 hb2281 (some_ne (by omega))) 0 _ rfl) rfl ?_
    refine wpo_conv (P := Try.prog) (k' := .i64) rfl (by kernel_rfl) (by kernel_rfl) (conv_i64 (by omega) (by omega)) rfl ?_
    refine wpo_move (v := .int .i64 n) e2288 rfl ?_
    have hr2308 := Int.emod_nonneg x2298 (show n ≠ 0 by omega)
    have hr2309 := Int.emod_lt_of_pos x2298 (show 0 < n by omega)
    refine wpo_rem (c := x2298 % n) rfl rfl (by omega) (by omega) (by omega) rfl rfl ?_
    refine wpo_assign (v := .int .i64 (x2298 % n)) rfl rfl ?_
    refine wpo_nil ?_
    refine wpf_ret ?_
    refine thn_r ?_
    refine ⟨.int .i64 (x2298 % n), res1 rfl rfl, (x2298 % n), rfl, by omega, by omega, hS2280.blk, hb2281⟩
   ·
    have h2310 := of_decide_eq_false h2296
    refine wpf_skip ?_
    refine thn_n ?_
    refine wpf_seq ?_
    have hr2363 := Int.emod_nonneg ((p + 1) - 1) (show (bs.length : Int) ≠ 0 by omega)
    have hr2364 := Int.emod_lt_of_pos ((p + 1) - 1) (show 0 < (bs.length : Int) by omega)
    obtain ⟨x2367, hx2368⟩ := get_lt (l := bs) (i := (((p + 1) - 1) % (bs.length : Int)).toNat) (by omega)
    obtain ⟨b2369, q2370, o2371, ha2372, ho2373, hne2375, hr2374⟩ := SlLt.at hs (map_get hx2368)
    have hbd2376 := hb x2367 (List.mem_of_getElem? hx2368)
    have hr2377 := Int.emod_nonneg (((p + 1) - 1) * 7 + 3) (show (bs.length : Int) ≠ 0 by omega)
    have hr2378 := Int.emod_lt_of_pos (((p + 1) - 1) * 7 + 3) (show 0 < (bs.length : Int) by omega)
    obtain ⟨x2381, hx2382⟩ := get_lt (l := bs) (i := ((((p + 1) - 1) * 7 + 3) % (bs.length : Int)).toNat) (by omega)
    obtain ⟨b2383, q2384, o2385, ha2386, ho2387, hne2389, hr2388⟩ := SlLt.at hs (map_get hx2382)
    have hbd2390 := hb x2381 (List.mem_of_getElem? hx2382)
    have hr2391 := Int.ediv_nonneg (show 0 ≤ ((p + 1) - 1) by omega) (show 0 ≤ (bs.length : Int) by omega)
    have hr2392 := Int.ediv_le_self (bs.length : Int) (show 0 ≤ ((p + 1) - 1) by omega)
    refine wpf_draw (m := 44) (vals := [(47, .pointer (some ⟨R, 0, none⟩)), (48, .pointer (some ⟨R, 0, none⟩)), (49, .pointer (some ⟨R, 0, none⟩)), (50, .slice a bs.length c), (51, .int .i64 ((p + 1) - 1)), (52, .pointer (some ⟨R, 0, none⟩)), (53, .pointer (some ⟨R, 0, none⟩)), (54, .pointer (some ⟨R, 0, none⟩)), (55, .slice a bs.length c), (56, .int .i64 (bs.length : Int)), (57, .int .i64 (((p + 1) - 1) % (bs.length : Int))), (58, .pointer (some ⟨b2369, o2371, none⟩)), (59, .int .u8 x2367), (60, .int .i64 x2367), (61, .int .i64 (x2367 * 131)), (62, .pointer (some ⟨R, 0, none⟩)), (63, .pointer (some ⟨R, 0, none⟩)), (64, .pointer (some ⟨R, 0, none⟩)), (65, .slice a bs.length c), (66, .int .i64 ((p + 1) - 1)), (67, .int .i64 (((p + 1) - 1) * 7)), (68, .int .i64 (((p + 1) - 1) * 7 + 3)), (69, .pointer (some ⟨R, 0, none⟩)), (70, .pointer (some ⟨R, 0, none⟩)), (71, .pointer (some ⟨R, 0, none⟩)), (72, .slice a bs.length c), (73, .int .i64 (bs.length : Int)), (74, .int .i64 ((((p + 1) - 1) * 7 + 3) % (bs.length : Int))), (75, .pointer (some ⟨b2383, o2385, none⟩)), (76, .int .u8 x2381), (77, .int .i64 x2381), (78, .int .i64 (x2381 * 1117)), (79, .int .i64 (x2367 * 131 + (x2381 * 1117))), (80, .int .i64 ((p + 1) - 1)), (81, .int .i64 (((p + 1) - 1) * 29)), (82, .int .i64 (x2367 * 131 + (x2381 * 1117) + (((p + 1) - 1) * 29))), (83, .int .i64 ((p + 1) - 1)), (84, .pointer (some ⟨R, 0, none⟩)), (85, .pointer (some ⟨R, 0, none⟩)), (86, .pointer (some ⟨R, 0, none⟩)), (87, .slice a bs.length c), (88, .int .i64 (bs.length : Int)), (89, .int .i64 (((p + 1) - 1) / (bs.length : Int))), (90, .int .i64 ((((p + 1) - 1) / (bs.length : Int)) * 53))]) (fun w' => w2279.grownBy w' none) mixed_ (by kernel_rfl) (grown_drew _) ?_ ?_
    ·
     refine yll_cons rfl (fun w2395 hi2396 => ?_) ?_
     ·
      have hb2397 := low0 hb2281 hi2396
      refine wpo_move (v := .pointer (some ⟨R, 0, none⟩)) e2287 rfl ?_
      exact wpo_nil ⟨rfl, hi2396⟩
     refine yll_cons rfl (fun w2398 hi2399 => ?_) ?_
     ·
      have hb2400 := low0 hb2281 hi2399
      refine wpo_nilCheck rfl rfl ?_
      exact wpo_nil ⟨rfl, hi2399⟩
     refine yll_cons rfl (fun w2401 hi2402 => ?_) ?_
     ·
      have hb2403 := low0 hb2281 hi2402
      refine wpo_fieldAddr (o' := 0) fo_121_0 rfl rfl rfl ?_
      exact wpo_nil ⟨rfl, hi2402⟩
     refine yll_cons rfl (fun w2404 hi2405 => ?_) ?_
     ·
      have hb2406 := low0 hb2281 hi2405
      have k2407 := (hS2280.blk.grown0 hi2405)
      refine wpo_load1 (v := .slice a bs.length c) ot_33 rfl (k2407.cell rfl) rfl ?_
      exact wpo_nil ⟨rfl, hi2405⟩
     refine yll_cons rfl (fun w2408 hi2409 => ?_) ?_
     ·
      have hb2410 := low0 hb2281 hi2409
      refine wpo_move (v := .int .i64 ((p + 1) - 1)) rfl rfl ?_
      exact wpo_nil ⟨rfl, hi2409⟩
     refine yll_cons rfl (fun w2411 hi2412 => ?_) ?_
     ·
      have hb2413 := low0 hb2281 hi2412
      refine wpo_move (v := .pointer (some ⟨R, 0, none⟩)) e2287 rfl ?_
      exact wpo_nil ⟨rfl, hi2412⟩
     refine yll_cons rfl (fun w2414 hi2415 => ?_) ?_
     ·
      have hb2416 := low0 hb2281 hi2415
      refine wpo_nilCheck rfl rfl ?_
      exact wpo_nil ⟨rfl, hi2415⟩
     refine yll_cons rfl (fun w2417 hi2418 => ?_) ?_
     ·
      have hb2419 := low0 hb2281 hi2418
      refine wpo_fieldAddr (o' := 0) fo_121_0 rfl rfl rfl ?_
      exact wpo_nil ⟨rfl, hi2418⟩
     refine yll_cons rfl (fun w2420 hi2421 => ?_) ?_
     ·
      have hb2422 := low0 hb2281 hi2421
      have k2423 := (hS2280.blk.grown0 hi2421)
      refine wpo_load1 (v := .slice a bs.length c) ot_33 rfl (k2423.cell rfl) rfl ?_
      exact wpo_nil ⟨rfl, hi2421⟩
     refine yll_cons rfl (fun w2424 hi2425 => ?_) ?_
     ·
      have hb2426 := low0 hb2281 hi2425
      refine wpo_len (by kernel_rfl) rfl rfl ?_
      exact wpo_nil ⟨rfl, hi2425⟩
     refine yll_cons rfl (fun w2427 hi2428 => ?_) ?_
     ·
      have hb2429 := low0 hb2281 hi2428
      refine wpo_rem (c := ((p + 1) - 1) % (bs.length : Int)) rfl rfl (by omega) (by omega) (by omega) rfl rfl ?_
      exact wpo_nil ⟨rfl, hi2428⟩
     refine yll_cons rfl (fun w2430 hi2431 => ?_) ?_
     ·
      have hb2432 := low0 hb2281 hi2431
      refine wpo_indexE es_33 rfl rfl ha2372 ho2373 (by omega) (by omega) rfl ?_
      exact wpo_nil ⟨rfl, hi2431⟩
     refine yll_cons rfl (fun w2433 hi2434 => ?_) ?_
     ·
      have hb2435 := low0 hb2281 hi2434
      refine wpo_load1 (v := .int .u8 x2367) ot_5 rfl ((range_grown hr2374 hb2435 (some_ne (by omega))) 0 _ rfl) rfl ?_
      exact wpo_nil ⟨rfl, hi2434⟩
     refine yll_cons rfl (fun w2436 hi2437 => ?_) ?_
     ·
      have hb2438 := low0 hb2281 hi2437
      refine wpo_conv (P := Try.prog) (k' := .i64) rfl (by kernel_rfl) (by kernel_rfl) (conv_i64 (by omega) (by omega)) rfl ?_
      exact wpo_nil ⟨rfl, hi2437⟩
     refine yll_cons rfl (fun w2439 hi2440 => ?_) ?_
     ·
      have hb2441 := low0 hb2281 hi2440
      refine wpo_mul (c := x2367 * 131) rfl rfl rfl (by omega) (by omega) rfl ?_
      exact wpo_nil ⟨rfl, hi2440⟩
     refine yll_cons rfl (fun w2442 hi2443 => ?_) ?_
     ·
      have hb2444 := low0 hb2281 hi2443
      refine wpo_move (v := .pointer (some ⟨R, 0, none⟩)) e2287 rfl ?_
      exact wpo_nil ⟨rfl, hi2443⟩
     refine yll_cons rfl (fun w2445 hi2446 => ?_) ?_
     ·
      have hb2447 := low0 hb2281 hi2446
      refine wpo_nilCheck rfl rfl ?_
      exact wpo_nil ⟨rfl, hi2446⟩
     refine yll_cons rfl (fun w2448 hi2449 => ?_) ?_
     ·
      have hb2450 := low0 hb2281 hi2449
      refine wpo_fieldAddr (o' := 0) fo_121_0 rfl rfl rfl ?_
      exact wpo_nil ⟨rfl, hi2449⟩
     refine yll_cons rfl (fun w2451 hi2452 => ?_) ?_
     ·
      have hb2453 := low0 hb2281 hi2452
      have k2454 := (hS2280.blk.grown0 hi2452)
      refine wpo_load1 (v := .slice a bs.length c) ot_33 rfl (k2454.cell rfl) rfl ?_
      exact wpo_nil ⟨rfl, hi2452⟩
     refine yll_cons rfl (fun w2455 hi2456 => ?_) ?_
     ·
      have hb2457 := low0 hb2281 hi2456
      refine wpo_move (v := .int .i64 ((p + 1) - 1)) rfl rfl ?_
      exact wpo_nil ⟨rfl, hi2456⟩
     refine yll_cons rfl (fun w2458 hi2459 => ?_) ?_
     ·
      have hb2460 := low0 hb2281 hi2459
      refine wpo_mul (c := ((p + 1) - 1) * 7) rfl rfl rfl (by omega) (by omega) rfl ?_
      exact wpo_nil ⟨rfl, hi2459⟩
     refine yll_cons rfl (fun w2461 hi2462 => ?_) ?_
     ·
      have hb2463 := low0 hb2281 hi2462
      refine wpo_add (c := ((p + 1) - 1) * 7 + 3) rfl rfl (by omega) (by omega) (by omega) rfl ?_
      exact wpo_nil ⟨rfl, hi2462⟩
     refine yll_cons rfl (fun w2464 hi2465 => ?_) ?_
     ·
      have hb2466 := low0 hb2281 hi2465
      refine wpo_move (v := .pointer (some ⟨R, 0, none⟩)) e2287 rfl ?_
      exact wpo_nil ⟨rfl, hi2465⟩
     refine yll_cons rfl (fun w2467 hi2468 => ?_) ?_
     ·
      have hb2469 := low0 hb2281 hi2468
      refine wpo_nilCheck rfl rfl ?_
      exact wpo_nil ⟨rfl, hi2468⟩
     refine yll_cons rfl (fun w2470 hi2471 => ?_) ?_
     ·
      have hb2472 := low0 hb2281 hi2471
      refine wpo_fieldAddr (o' := 0) fo_121_0 rfl rfl rfl ?_
      exact wpo_nil ⟨rfl, hi2471⟩
     refine yll_cons rfl (fun w2473 hi2474 => ?_) ?_
     ·
      have hb2475 := low0 hb2281 hi2474
      have k2476 := (hS2280.blk.grown0 hi2474)
      refine wpo_load1 (v := .slice a bs.length c) ot_33 rfl (k2476.cell rfl) rfl ?_
      exact wpo_nil ⟨rfl, hi2474⟩
     refine yll_cons rfl (fun w2477 hi2478 => ?_) ?_
     ·
      have hb2479 := low0 hb2281 hi2478
      refine wpo_len (by kernel_rfl) rfl rfl ?_
      exact wpo_nil ⟨rfl, hi2478⟩
     refine yll_cons rfl (fun w2480 hi2481 => ?_) ?_
     ·
      have hb2482 := low0 hb2281 hi2481
      refine wpo_rem (c := (((p + 1) - 1) * 7 + 3) % (bs.length : Int)) rfl rfl (by omega) (by omega) (by omega) rfl rfl ?_
      exact wpo_nil ⟨rfl, hi2481⟩
     refine yll_cons rfl (fun w2483 hi2484 => ?_) ?_
     ·
      have hb2485 := low0 hb2281 hi2484
      refine wpo_indexE es_33 rfl rfl ha2386 ho2387 (by omega) (by omega) rfl ?_
      exact wpo_nil ⟨rfl, hi2484⟩
     refine yll_cons rfl (fun w2486 hi2487 => ?_) ?_
     ·
      have hb2488 := low0 hb2281 hi2487
      refine wpo_load1 (v := .int .u8 x2381) ot_5 rfl ((range_grown hr2388 hb2488 (some_ne (by omega))) 0 _ rfl) rfl ?_
      exact wpo_nil ⟨rfl, hi2487⟩
     refine yll_cons rfl (fun w2489 hi2490 => ?_) ?_
     ·
      have hb2491 := low0 hb2281 hi2490
      refine wpo_conv (P := Try.prog) (k' := .i64) rfl (by kernel_rfl) (by kernel_rfl) (conv_i64 (by omega) (by omega)) rfl ?_
      exact wpo_nil ⟨rfl, hi2490⟩
     refine yll_cons rfl (fun w2492 hi2493 => ?_) ?_
     ·
      have hb2494 := low0 hb2281 hi2493
      refine wpo_mul (c := x2381 * 1117) rfl rfl rfl (by omega) (by omega) rfl ?_
      exact wpo_nil ⟨rfl, hi2493⟩
     refine yll_cons rfl (fun w2495 hi2496 => ?_) ?_
     ·
      have hb2497 := low0 hb2281 hi2496
      refine wpo_add (c := x2367 * 131 + (x2381 * 1117)) rfl rfl (by omega) (by omega) (by omega) rfl ?_
      exact wpo_nil ⟨rfl, hi2496⟩
     refine yll_cons rfl (fun w2498 hi2499 => ?_) ?_
     ·
      have hb2500 := low0 hb2281 hi2499
      refine wpo_move (v := .int .i64 ((p + 1) - 1)) rfl rfl ?_
      exact wpo_nil ⟨rfl, hi2499⟩
     refine yll_cons rfl (fun w2501 hi2502 => ?_) ?_
     ·
      have hb2503 := low0 hb2281 hi2502
      refine wpo_mul (c := ((p + 1) - 1) * 29) rfl rfl rfl (by omega) (by omega) rfl ?_
      exact wpo_nil ⟨rfl, hi2502⟩
     refine yll_cons rfl (fun w2504 hi2505 => ?_) ?_
     ·
      have hb2506 := low0 hb2281 hi2505
      refine wpo_add (c := x2367 * 131 + (x2381 * 1117) + (((p + 1) - 1) * 29)) rfl rfl (by omega) (by omega) (by omega) rfl ?_
      exact wpo_nil ⟨rfl, hi2505⟩
     refine yll_cons rfl (fun w2507 hi2508 => ?_) ?_
     ·
      have hb2509 := low0 hb2281 hi2508
      refine wpo_move (v := .int .i64 ((p + 1) - 1)) rfl rfl ?_
      exact wpo_nil ⟨rfl, hi2508⟩
     refine yll_cons rfl (fun w2510 hi2511 => ?_) ?_
     ·
      have hb2512 := low0 hb2281 hi2511
      refine wpo_move (v := .pointer (some ⟨R, 0, none⟩)) e2287 rfl ?_
      exact wpo_nil ⟨rfl, hi2511⟩
     refine yll_cons rfl (fun w2513 hi2514 => ?_) ?_
     ·
      have hb2515 := low0 hb2281 hi2514
      refine wpo_nilCheck rfl rfl ?_
      exact wpo_nil ⟨rfl, hi2514⟩
     refine yll_cons rfl (fun w2516 hi2517 => ?_) ?_
     ·
      have hb2518 := low0 hb2281 hi2517
      refine wpo_fieldAddr (o' := 0) fo_121_0 rfl rfl rfl ?_
      exact wpo_nil ⟨rfl, hi2517⟩
     refine yll_cons rfl (fun w2519 hi2520 => ?_) ?_
     ·
      have hb2521 := low0 hb2281 hi2520
      have k2522 := (hS2280.blk.grown0 hi2520)
      refine wpo_load1 (v := .slice a bs.length c) ot_33 rfl (k2522.cell rfl) rfl ?_
      exact wpo_nil ⟨rfl, hi2520⟩
     refine yll_cons rfl (fun w2523 hi2524 => ?_) ?_
     ·
      have hb2525 := low0 hb2281 hi2524
      refine wpo_len (by kernel_rfl) rfl rfl ?_
      exact wpo_nil ⟨rfl, hi2524⟩
     refine yll_cons rfl (fun w2526 hi2527 => ?_) ?_
     ·
      have hb2528 := low0 hb2281 hi2527
      refine wpo_quo (c := ((p + 1) - 1) / (bs.length : Int)) rfl rfl (by omega) (by omega) (by omega) rfl rfl ?_
      exact wpo_nil ⟨rfl, hi2527⟩
     refine yll_cons rfl (fun w2529 hi2530 => ?_) ?_
     ·
      have hb2531 := low0 hb2281 hi2530
      refine wpo_mul (c := (((p + 1) - 1) / (bs.length : Int)) * 53) rfl rfl rfl (by omega) (by omega) rfl ?_
      exact wpo_nil ⟨rfl, hi2530⟩
     exact yll_nil
    ·
     intro w2532 hi2533
     have hb2534 := low0 hb2281 hi2533
     refine wpo_add (c := x2367 * 131 + (x2381 * 1117) + (((p + 1) - 1) * 29) + ((((p + 1) - 1) / (bs.length : Int)) * 53)) rfl rfl (by omega) (by omega) (by omega) rfl ?_
     refine wpo_assign (v := .int .i64 (x2367 * 131 + (x2381 * 1117) + (((p + 1) - 1) * 29) + ((((p + 1) - 1) / (bs.length : Int)) * 53))) rfl rfl ?_
     refine wpo_nil ?_
     refine thn_n ?_
     refine wpf_seq_region ?_
     refine wpo_move (v := .int .i64 (x2367 * 131 + (x2381 * 1117) + (((p + 1) - 1) * 29) + ((((p + 1) - 1) / (bs.length : Int)) * 53))) rfl rfl ?_
     refine wpo_move (v := .int .i64 (x2367 * 131 + (x2381 * 1117) + (((p + 1) - 1) * 29) + ((((p + 1) - 1) / (bs.length : Int)) * 53))) rfl rfl ?_
     refine wpo_quo (c := (x2367 * 131 + (x2381 * 1117) + (((p + 1) - 1) * 29) + ((((p + 1) - 1) / (bs.length : Int)) * 53)) / 64) rfl rfl (by omega) (by omega) (by omega) rfl rfl ?_
     have hx2535 := xor_pos (x := x2367 * 131 + (x2381 * 1117) + (((p + 1) - 1) * 29) + ((((p + 1) - 1) / (bs.length : Int)) * 53)) (y := (x2367 * 131 + (x2381 * 1117) + (((p + 1) - 1) * 29) + ((((p + 1) - 1) / (bs.length : Int)) * 53)) / 64) (by omega) (by omega) (by omega) (by omega)
     refine wpo_bin (u := .int .i64 (x2367 * 131 + (x2381 * 1117) + (((p + 1) - 1) * 29) + ((((p + 1) - 1) / (bs.length : Int)) * 53))) (u' := .int .i64 ((x2367 * 131 + (x2381 * 1117) + (((p + 1) - 1) * 29) + ((((p + 1) - 1) / (bs.length : Int)) * 53)) / 64)) (v := .int .i64 (bits .xor .i64 (x2367 * 131 + (x2381 * 1117) + (((p + 1) - 1) * 29) + ((((p + 1) - 1) / (bs.length : Int)) * 53)) ((x2367 * 131 + (x2381 * 1117) + (((p + 1) - 1) * 29) + ((((p + 1) - 1) / (bs.length : Int)) * 53)) / 64))) rfl rfl (by rw [binOp_xor, intBits_xor]; rfl) (fun _ _ => eqGuard_at_int ..) rfl ?_
     refine wpo_assign (v := .int .i64 (bits .xor .i64 (x2367 * 131 + (x2381 * 1117) + (((p + 1) - 1) * 29) + ((((p + 1) - 1) / (bs.length : Int)) * 53)) ((x2367 * 131 + (x2381 * 1117) + (((p + 1) - 1) * 29) + ((((p + 1) - 1) / (bs.length : Int)) * 53)) / 64))) rfl rfl ?_
     refine wpo_nil ?_
     refine wpf_seq_region ?_
     refine wpo_move (v := .int .i64 (bits .xor .i64 (x2367 * 131 + (x2381 * 1117) + (((p + 1) - 1) * 29) + ((((p + 1) - 1) / (bs.length : Int)) * 53)) ((x2367 * 131 + (x2381 * 1117) + (((p + 1) - 1) * 29) + ((((p + 1) - 1) / (bs.length : Int)) * 53)) / 64))) rfl rfl ?_
     refine wpo_move (v := .int .i64 n) e2288 rfl ?_
     have hr2536 := Int.emod_nonneg (bits .xor .i64 (x2367 * 131 + (x2381 * 1117) + (((p + 1) - 1) * 29) + ((((p + 1) - 1) / (bs.length : Int)) * 53)) ((x2367 * 131 + (x2381 * 1117) + (((p + 1) - 1) * 29) + ((((p + 1) - 1) / (bs.length : Int)) * 53)) / 64)) (show n ≠ 0 by omega)
     have hr2537 := Int.emod_lt_of_pos (bits .xor .i64 (x2367 * 131 + (x2381 * 1117) + (((p + 1) - 1) * 29) + ((((p + 1) - 1) / (bs.length : Int)) * 53)) ((x2367 * 131 + (x2381 * 1117) + (((p + 1) - 1) * 29) + ((((p + 1) - 1) / (bs.length : Int)) * 53)) / 64)) (show 0 < n by omega)
     refine wpo_rem (c := (bits .xor .i64 (x2367 * 131 + (x2381 * 1117) + (((p + 1) - 1) * 29) + ((((p + 1) - 1) / (bs.length : Int)) * 53)) ((x2367 * 131 + (x2381 * 1117) + (((p + 1) - 1) * 29) + ((((p + 1) - 1) / (bs.length : Int)) * 53)) / 64)) % n) rfl rfl (by omega) (by omega) (by omega) rfl rfl ?_
     refine wpo_assign (v := .int .i64 ((bits .xor .i64 (x2367 * 131 + (x2381 * 1117) + (((p + 1) - 1) * 29) + ((((p + 1) - 1) / (bs.length : Int)) * 53)) ((x2367 * 131 + (x2381 * 1117) + (((p + 1) - 1) * 29) + ((((p + 1) - 1) / (bs.length : Int)) * 53)) / 64)) % n)) rfl rfl ?_
     refine wpo_nil ?_
     refine wpf_ret ?_
     have k2538 := (hS2280.blk.grown0 hi2533)
     refine ⟨.int .i64 ((bits .xor .i64 (x2367 * 131 + (x2381 * 1117) + (((p + 1) - 1) * 29) + ((((p + 1) - 1) / (bs.length : Int)) * 53)) ((x2367 * 131 + (x2381 * 1117) + (((p + 1) - 1) * 29) + ((((p + 1) - 1) / (bs.length : Int)) * 53)) / 64)) % n), res1 rfl rfl, ((bits .xor .i64 (x2367 * 131 + (x2381 * 1117) + (((p + 1) - 1) * 29) + ((((p + 1) - 1) / (bs.length : Int)) * 53)) ((x2367 * 131 + (x2381 * 1117) + (((p + 1) - 1) * 29) + ((((p + 1) - 1) / (bs.length : Int)) * 53)) / 64)) % n), rfl, by omega, by omega, k2538, hb2534⟩

theorem l71Right_c (p : Int) (hp : 0 ≤ p ∧ p ≤ 1000000000000) (lo R : Nat) (bs : List Int) (a : Option Addr) (c : Nat) (w : World) (hR : Blk w R 121 #[.slice a bs.length c, .int .i64 p]) (hlo : lo ≤ R) (hs : SlLt lo w a 1 (bs.map bcell)) (hb : ∀ b ∈ bs, 0 ≤ b ∧ b ≤ 255) (hn : bs.length ≤ 1048576) : CallsR Try.prog 61 #[.pointer (some ⟨R, 0, none⟩)] w (fun v w' => ∃ (r : Rt) (p' : Int), v = .agg #[.int .i64 r.th, .int .i64 r.ve, .bool r.rd, .bool r.wr, .bool r.wk] ∧ -1 ≤ r.th ∧ r.th ≤ 9 ∧ -1 ≤ r.ve ∧ r.ve ≤ 9 ∧ p ≤ p' ∧ p' ≤ p + 8 ∧ Blk w' R 121 #[.slice a bs.length c, .int .i64 p'] ∧ w.grownBy w' (some R)) := by
 refine calls_of_wpf (n := 49) Try.func61 rfl Try.ntmps61 rfl ?_
 have hb0 := World.grownBy.refl w (some R)
 have hRlt := hR.lt
 refine wpf_seq_region ?_
 refine wpo_alloc (cs := #[.int .i64 0, .int .i64 0, .bool false, .bool false, .bool false]) zt_29 rfl rfl ?_
 intro B2539 w2540 hN2541
 have hlB2539 := hN_ge hN2541 hb0
 have lt_R_B2539 := hN_gtl hN2541 (hR).lt
 have hb2542 := low0 hb0 hN2541.grw
 refine wpo_nil ?_
 refine wpf_seq ?_
 refine wpf_seq_region ?_
 refine wpo_move (v := .pointer (some ⟨R, 0, none⟩)) rfl rfl ?_
 have k2543 := (hR.grown0 hN2541.grw)
 refine wpo_call (vs := [.pointer (some ⟨R, 0, none⟩), .int .i64 6]) gf_60 (args_cons rfl (args_cons rfl args_nil)) rfl (pick_c p 6 (by omega) _ R bs _ _ _ k2543 (by omega) (SlLt.low1 hs hb2542 hlo) (by first | exact hb | exact fun b h => hb b (List.mem_of_mem_take h)) (by first | omega | (rw [List.length_take]; omega))) ?_
 rintro _ w2549 ⟨k2544, rfl, hk2545, hk2546, kR2547, hg2548⟩
 have hb2550 := grown_trans hb2542 hg2548
 refine wpo_eql (q := decide (k2544 = 0)) rfl rfl rfl rfl ?_
 refine wpo_nil ?_
 refine wpf_cond rfl (fun h2551 => ?_) (fun h2551 => ?_)
 ·
  have h2552 := of_decide_eq_true h2551
  refine wpf_seq_region ?_
  refine wpo_build (ps := []) (v := .agg #[.int .i64 0, .int .i64 0, .bool false, .bool false, .bool false]) parts_nil (by kernel_rfl) rfl ?_
  have k2553 := (hN2541.blk.grown hg2548 (some_ne (by omega)))
  refine wpo_storen (vs := [.int .i64 0, .int .i64 0, .bool false, .bool false, .bool false]) (cs' := #[.int .i64 0, .int .i64 0, .bool false, .bool false, .bool false]) rt_29 rfl rfl rfl (by simp [Value.oneCell']) k2553 (Nat.le_of_ble_eq_true rfl) rfl ?_
  intro w2554 hS2555
  have hb2556 := low1 hb2550 hS2555.grw (by omega)
  refine wpo_nil ?_
  refine wpf_ret ?_
  refine thn_r ?_
  have k2557 := (kR2547.grown hS2555.grw (some_ne (by omega)))
  refine ⟨.agg #[.int .i64 0, .int .i64 0, .bool false, .bool false, .bool false], resC rfl (resCell_mk (vs := [.int .i64 0, .int .i64 0, .bool false, .bool false, .bool false]) rt_29 rfl rfl (hS2555.blk.rangeL 0 5 rfl)), ⟨0, 0, false, false, false⟩, (p + 1), rfl, show (-1 : Int) ≤ 0 by omega, show 0 ≤ (9 : Int) by omega, show (-1 : Int) ≤ 0 by omega, show 0 ≤ (9 : Int) by omega, by omega, by omega, k2557, hb2556⟩
 ·
  have h2558 := of_decide_eq_false h2551
  refine wpf_skip ?_
  refine thn_n ?_
  refine wpf_seq_region ?_
  refine wpo_move (v := .pointer (some ⟨R, 0, none⟩)) rfl rfl ?_
  refine wpo_call (vs := [.pointer (some ⟨R, 0, none⟩), .int .i64 8]) gf_60 (args_cons rfl (args_cons rfl args_nil)) rfl (pick_c (p + 1) 8 (by omega) _ R bs _ _ _ kR2547 (by omega) (SlLt.low1 hs hb2550 hlo) (by first | exact hb | exact fun b h => hb b (List.mem_of_mem_take h)) (by first | omega | (rw [List.length_take]; omega))) ?_
  rintro _ w2564 ⟨k2559, rfl, hk2560, hk2561, kR2562, hg2563⟩
  have hb2565 := grown_trans hb2550 hg2563
  refine wpo_add (c := 1 + k2559) rfl rfl (by omega) (by omega) (by omega) rfl ?_
  refine wpo_move (v := .pointer (some ⟨R, 0, none⟩)) rfl rfl ?_
  refine wpo_call (vs := [.pointer (some ⟨R, 0, none⟩), .int .i64 3]) gf_60 (args_cons rfl (args_cons rfl args_nil)) rfl (pick_c (p + 1 + 1) 3 (by omega) _ R bs _ _ _ kR2562 (by omega) (SlLt.low1 hs hb2565 hlo) (by first | exact hb | exact fun b h => hb b (List.mem_of_mem_take h)) (by first | omega | (rw [List.length_take]; omega))) ?_
  rintro _ w2571 ⟨k2566, rfl, hk2567, hk2568, kR2569, hg2570⟩
  have hb2572 := grown_trans hb2565 hg2570
  refine wpo_move (v := .pointer (some ⟨R, 0, none⟩)) rfl rfl ?_
  refine wpo_call (vs := [.pointer (some ⟨R, 0, none⟩), .int .i64 4]) gf_60 (args_cons rfl (args_cons rfl args_nil)) rfl (pick_c (p + 1 + 1 + 1) 4 (by omega) _ R bs _ _ _ kR2569 (by omega) (SlLt.low1 hs hb2572 hlo) (by first | exact hb | exact fun b h => hb b (List.mem_of_mem_take h)) (by first | omega | (rw [List.length_take]; omega))) ?_
  rintro _ w2578 ⟨k2573, rfl, hk2574, hk2575, kR2576, hg2577⟩
  have hb2579 := grown_trans hb2572 hg2577
  refine wpo_gtr (q := decide (0 < k2573)) rfl rfl rfl rfl ?_
  refine wpo_move (v := .pointer (some ⟨R, 0, none⟩)) rfl rfl ?_
  refine wpo_call (vs := [.pointer (some ⟨R, 0, none⟩), .int .i64 2]) gf_60 (args_cons rfl (args_cons rfl args_nil)) rfl (pick_c (p + 1 + 1 + 1 + 1) 2 (by omega) _ R bs _ _ _ kR2576 (by omega) (SlLt.low1 hs hb2579 hlo) (by first | exact hb | exact fun b h => hb b (List.mem_of_mem_take h)) (by first | omega | (rw [List.length_take]; omega))) ?_
  rintro _ w2585 ⟨k2580, rfl, hk2581, hk2582, kR2583, hg2584⟩
  have hb2586 := grown_trans hb2579 hg2584
  refine wpo_eql (q := decide (k2580 = 0)) rfl rfl rfl rfl ?_
  refine wpo_build (ps := [(0, .int .i64 (1 + k2559)), (1, .int .i64 k2566), (2, .bool (decide (0 < k2573))), (3, .bool (decide (k2580 = 0)))]) (v := .agg #[.int .i64 (1 + k2559), .int .i64 k2566, .bool (decide (0 < k2573)), .bool (decide (k2580 = 0)), .bool false]) (parts_cons rfl (parts_cons rfl (parts_cons rfl (parts_cons rfl parts_nil)))) (by kernel_rfl) rfl ?_
  refine wpo_alloc (cs := #[.int .i64 0, .int .i64 0, .bool false, .bool false, .bool false]) zt_29 rfl rfl ?_
  intro B2587 w2588 hN2589
  have hlB2587 := hN_ge hN2589 hb2586
  have lt_R_B2587 := hN_gtl hN2589 (kR2583).lt
  have k2590 := (((((hN2541.blk.grown hg2548 (some_ne (by omega))).grown hg2563 (some_ne (by omega))).grown hg2570 (some_ne (by omega))).grown hg2577 (some_ne (by omega))).grown hg2584 (some_ne (by omega)))
  have lt_B2539_B2587 := hN_gtl hN2589 (k2590).lt
  have hb2591 := low0 hb2586 hN2589.grw
  refine wpo_storen (vs := [.int .i64 (1 + k2559), .int .i64 k2566, .bool (decide (0 < k2573)), .bool (decide (k2580 = 0)), .bool false]) (cs' := #[.int .i64 (1 + k2559), .int .i64 k2566, .bool (decide (0 < k2573)), .bool (decide (k2580 = 0)), .bool false]) rt_29 rfl rfl rfl (by simp [Value.oneCell']) hN2589.blk (Nat.le_of_ble_eq_true rfl) rfl ?_
  intro w2592 hS2593
  have hb2594 := low1 hb2591 hS2593.grw (by omega)
  refine wpo_nil ?_
  refine wpf_seq ?_
  refine wpf_seq_region ?_
  refine wpo_fieldAddr (o' := 3) fo_29_3 rfl rfl rfl ?_
  refine wpo_load1 (v := .bool (decide (k2580 = 0))) ot_4 rfl (hS2593.blk.cell rfl) rfl ?_
  refine wpo_not (b' := !(decide (k2580 = 0))) rfl rfl rfl ?_
  refine wpo_nil ?_
  refine wpf_cond rfl (fun h2595 => ?_) (fun h2595 => ?_)
  ·
   have h2596 := nt_t h2595
   have h2597 := of_decide_eq_false h2596
   refine wpf_region ?_
   refine wpo_move (v := .pointer (some ⟨R, 0, none⟩)) rfl rfl ?_
   have k2598 := ((kR2583.grown0 hN2589.grw).grown hS2593.grw (some_ne (by omega)))
   refine wpo_call (vs := [.pointer (some ⟨R, 0, none⟩), .int .i64 2]) gf_60 (args_cons rfl (args_cons rfl args_nil)) rfl (pick_c (p + 1 + 1 + 1 + 1 + 1) 2 (by omega) _ R bs _ _ _ k2598 (by omega) (SlLt.low1 hs hb2594 hlo) (by first | exact hb | exact fun b h => hb b (List.mem_of_mem_take h)) (by first | omega | (rw [List.length_take]; omega))) ?_
   rintro _ w2604 ⟨k2599, rfl, hk2600, hk2601, kR2602, hg2603⟩
   have hb2605 := grown_trans hb2594 hg2603
   refine wpo_eql (q := decide (k2599 = 0)) rfl rfl rfl rfl ?_
   refine wpo_fieldAddr (o' := 4) fo_29_4 rfl rfl rfl ?_
   have k2606 := (hS2593.blk.grown hg2603 (some_ne (by omega)))
   refine wpo_store1 (v := .bool (decide (k2599 = 0))) (cs' := #[.int .i64 (1 + k2559), .int .i64 k2566, .bool (decide (0 < k2573)), .bool (decide (k2580 = 0)), .bool (decide (k2599 = 0))]) ot_4 rfl rfl rfl k2606 (Nat.le_of_ble_eq_true rfl) rfl ?_
   intro w2607 hS2608
   have hb2609 := low1 hb2605 hS2608.grw (by omega)
   refine wpo_nil ?_
   refine thn_n ?_
   refine wpf_seq ?_
   refine wpf_seq_region ?_
   refine wpo_move (v := .pointer (some ⟨R, 0, none⟩)) rfl rfl ?_
   have k2610 := (kR2602.grown hS2608.grw (some_ne (by omega)))
   refine wpo_call (vs := [.pointer (some ⟨R, 0, none⟩), .int .i64 40]) gf_60 (args_cons rfl (args_cons rfl args_nil)) rfl (pick_c (p + 1 + 1 + 1 + 1 + 1 + 1) 40 (by omega) _ R bs _ _ _ k2610 (by omega) (SlLt.low1 hs hb2609 hlo) (by first | exact hb | exact fun b h => hb b (List.mem_of_mem_take h)) (by first | omega | (rw [List.length_take]; omega))) ?_
   rintro _ w2616 ⟨k2611, rfl, hk2612, hk2613, kR2614, hg2615⟩
   have hb2617 := grown_trans hb2609 hg2615
   refine wpo_nil ?_
   refine wpf_block ?_
   refine wpf_seq_region ?_
   refine wpo_eql (q := decide (k2611 = 0)) rfl rfl rfl rfl ?_
   refine wpo_assign (v := .bool (decide (k2611 = 0))) rfl rfl ?_
   refine wpo_nil ?_
   refine wpf_cond rfl (fun h2618 => ?_) (fun h2618 => ?_)
   ·
    have h2619 := of_decide_eq_true h2618
    refine wpf_region ?_
    refine wpo_fieldAddr (o' := 4) fo_29_4 rfl rfl rfl ?_
    have k2620 := (hS2608.blk.grown hg2615 (some_ne (by omega)))
    refine wpo_store1 (v := .bool true) (cs' := #[.int .i64 (1 + k2559), .int .i64 k2566, .bool (decide (0 < k2573)), .bool (decide (k2580 = 0)), .bool true]) ot_4 rfl rfl rfl k2620 (Nat.le_of_ble_eq_true rfl) rfl ?_
    intro w2621 hS2622
    have hb2623 := low1 hb2617 hS2622.grw (by omega)
    refine wpo_nil ?_
    refine blk_n ?_
    refine thn_n ?_
    refine wpf_seq_region ?_
    refine wpo_loadn (vs := [.int .i64 (1 + k2559), .int .i64 k2566, .bool (decide (0 < k2573)), .bool (decide (k2580 = 0)), .bool true]) rt_29 rfl rfl (hS2622.blk.rangeL 0 5 rfl) rfl ?_
    have k2624 := ((((((k2590.grown0 hN2589.grw).grown hS2593.grw (some_ne (by omega))).grown hg2603 (some_ne (by omega))).grown hS2608.grw (some_ne (by omega))).grown hg2615 (some_ne (by omega))).grown hS2622.grw (some_ne (by omega)))
    refine wpo_storen (vs := [.int .i64 (1 + k2559), .int .i64 k2566, .bool (decide (0 < k2573)), .bool (decide (k2580 = 0)), .bool true]) (cs' := #[.int .i64 (1 + k2559), .int .i64 k2566, .bool (decide (0 < k2573)), .bool (decide (k2580 = 0)), .bool true]) rt_29 rfl rfl rfl (by simp [Value.oneCell']) k2624 (Nat.le_of_ble_eq_true rfl) rfl ?_
    intro w2625 hS2626
    have hb2627 := low1 hb2623 hS2626.grw (by omega)
    refine wpo_nil ?_
    refine wpf_ret ?_
    have k2628 := ((kR2614.grown hS2622.grw (some_ne (by omega))).grown hS2626.grw (some_ne (by omega)))
    refine ⟨.agg #[.int .i64 (1 + k2559), .int .i64 k2566, .bool (decide (0 < k2573)), .bool (decide (k2580 = 0)), .bool true], resC rfl (resCell_mk (vs := [.int .i64 (1 + k2559), .int .i64 k2566, .bool (decide (0 < k2573)), .bool (decide (k2580 = 0)), .bool true]) rt_29 rfl rfl (hS2626.blk.rangeL 0 5 rfl)), ⟨1 + k2559, k2566, decide (0 < k2573), decide (k2580 = 0), true⟩, (p + 1 + 1 + 1 + 1 + 1 + 1 + 1), rfl, show (-1 : Int) ≤ 1 + k2559 by omega, show 1 + k2559 ≤ (9 : Int) by omega, show (-1 : Int) ≤ k2566 by omega, show k2566 ≤ (9 : Int) by omega, by omega, by omega, k2628, hb2627⟩
   ·
    have h2629 := of_decide_eq_false h2618
    refine wpf_seq_region ?_
    refine wpo_eql (q := decide (k2611 = 1)) rfl rfl rfl rfl ?_
    refine wpo_assign (v := .bool (decide (k2611 = 1))) rfl rfl ?_
    refine wpo_nil ?_
    refine wpf_cond rfl (fun h2630 => ?_) (fun h2630 => ?_)
    ·
     have h2631 := of_decide_eq_true h2630
     refine wpf_region ?_
     refine wpo_buildSlice (ps := [(0, .int .i64 0), (1, .int .i64 9), (2, .int .i64 (-1))]) (e := 3) (cs := (([0, 9, (-1)] : List Int).flatMap icell).toArray) (parts_cons rfl (parts_cons rfl (parts_cons rfl parts_nil))) (fun _ => by kernel_rfl) rfl ?_
     intro B2632 w2633 hN2634
     have hlB2632 := hN_ge hN2634 hb2617
     have lt_R_B2632 := hN_gtl hN2634 (kR2614).lt
     have k2635 := (((((k2590.grown0 hN2589.grw).grown hS2593.grw (some_ne (by omega))).grown hg2603 (some_ne (by omega))).grown hS2608.grw (some_ne (by omega))).grown hg2615 (some_ne (by omega)))
     have lt_B2539_B2632 := hN_gtl hN2634 (k2635).lt
     have k2636 := (hS2608.blk.grown hg2615 (some_ne (by omega)))
     have lt_B2587_B2632 := hN_gtl hN2634 (k2636).lt
     have hb2637 := low0 hb2617 hN2634.grw
     refine wpo_move (v := .pointer (some ⟨R, 0, none⟩)) rfl rfl ?_
     have k2638 := (kR2614.grown0 hN2634.grw)
     refine wpo_call (vs := [.pointer (some ⟨R, 0, none⟩), .int .i64 3]) gf_60 (args_cons rfl (args_cons rfl args_nil)) rfl (pick_c (p + 1 + 1 + 1 + 1 + 1 + 1 + 1) 3 (by omega) _ R bs _ _ _ k2638 (by omega) (SlLt.low1 hs hb2637 hlo) (by first | exact hb | exact fun b h => hb b (List.mem_of_mem_take h)) (by first | omega | (rw [List.length_take]; omega))) ?_
     rintro _ w2644 ⟨k2639, rfl, hk2640, hk2641, kR2642, hg2643⟩
     have hb2645 := grown_trans hb2637 hg2643
     refine wpo_indexAddr (o' := (k2639).toNat * 1) es_43 rfl rfl (by omega) (by omega) (by omega) rfl ?_
     have k2646 := (hN2634.blk.grown hg2643 (some_ne (by omega)))
     obtain ⟨x2647, hx2648⟩ := get_lt (l := ([0, 9, (-1)] : List Int)) (i := (k2639).toNat) (show (k2639).toNat < 3 by omega)
     have hm2649 := List.mem_of_getElem? hx2648
     simp only [List.mem_cons, List.not_mem_nil, or_false] at hm2649
     refine wpo_load1 (v := .int .i64 x2647) ot_3 rfl ((rows_range wide_int k2646 hx2648) 0 _ rfl) rfl ?_
     refine wpo_fieldAddr (o' := 0) fo_29_0 rfl rfl rfl ?_
     have k2650 := ((k2636.grown0 hN2634.grw).grown hg2643 (some_ne (by omega)))
     refine wpo_store1 (v := .int .i64 x2647) (cs' := #[.int .i64 x2647, .int .i64 k2566, .bool (decide (0 < k2573)), .bool (decide (k2580 = 0)), .bool (decide (k2599 = 0))]) ot_3 rfl rfl rfl k2650 (Nat.le_of_ble_eq_true rfl) rfl ?_
     intro w2651 hS2652
     have hb2653 := low1 hb2645 hS2652.grw (by omega)
     refine wpo_nil ?_
     refine blk_n ?_
     refine thn_n ?_
     refine wpf_seq_region ?_
     refine wpo_loadn (vs := [.int .i64 x2647, .int .i64 k2566, .bool (decide (0 < k2573)), .bool (decide (k2580 = 0)), .bool (decide (k2599 = 0))]) rt_29 rfl rfl (hS2652.blk.rangeL 0 5 rfl) rfl ?_
     have k2654 := (((k2635.grown0 hN2634.grw).grown hg2643 (some_ne (by omega))).grown hS2652.grw (some_ne (by omega)))
     refine wpo_storen (vs := [.int .i64 x2647, .int .i64 k2566, .bool (decide (0 < k2573)), .bool (decide (k2580 = 0)), .bool (decide (k2599 = 0))]) (cs' := #[.int .i64 x2647, .int .i64 k2566, .bool (decide (0 < k2573)), .bool (decide (k2580 = 0)), .bool (decide (k2599 = 0))]) rt_29 rfl rfl rfl (by simp [Value.oneCell']) k2654 (Nat.le_of_ble_eq_true rfl) rfl ?_
     intro w2655 hS2656
     have hb2657 := low1 hb2653 hS2656.grw (by omega)
     refine wpo_nil ?_
     refine wpf_ret ?_
     have k2658 := ((kR2642.grown hS2652.grw (some_ne (by omega))).grown hS2656.grw (some_ne (by omega)))
     refine ⟨.agg #[.int .i64 x2647, .int .i64 k2566, .bool (decide (0 < k2573)), .bool (decide (k2580 = 0)), .bool (decide (k2599 = 0))], resC rfl (resCell_mk (vs := [.int .i64 x2647, .int .i64 k2566, .bool (decide (0 < k2573)), .bool (decide (k2580 = 0)), .bool (decide (k2599 = 0))]) rt_29 rfl rfl (hS2656.blk.rangeL 0 5 rfl)), ⟨x2647, k2566, decide (0 < k2573), decide (k2580 = 0), decide (k2599 = 0)⟩, (p + 1 + 1 + 1 + 1 + 1 + 1 + 1 + 1), rfl, show (-1 : Int) ≤ x2647 by omega, show x2647 ≤ (9 : Int) by omega, show (-1 : Int) ≤ k2566 by omega, show k2566 ≤ (9 : Int) by omega, by omega, by omega, k2658, hb2657⟩
    ·
     have h2659 := of_decide_eq_false h2630
     refine wpf_seq_region ?_
     refine wpo_eql (q := decide (k2611 = 2)) rfl rfl rfl rfl ?_
     refine wpo_assign (v := .bool (decide (k2611 = 2))) rfl rfl ?_
     refine wpo_nil ?_
     refine wpf_cond rfl (fun h2660 => ?_) (fun h2660 => ?_)
     ·
      have h2661 := of_decide_eq_true h2660
      refine wpf_region ?_
      refine wpo_buildSlice (ps := [(0, .int .i64 (-1)), (1, .int .i64 5), (2, .int .i64 6)]) (e := 3) (cs := (([(-1), 5, 6] : List Int).flatMap icell).toArray) (parts_cons rfl (parts_cons rfl (parts_cons rfl parts_nil))) (fun _ => by kernel_rfl) rfl ?_
      intro B2662 w2663 hN2664
      have hlB2662 := hN_ge hN2664 hb2617
      have lt_R_B2662 := hN_gtl hN2664 (kR2614).lt
      have k2665 := (((((k2590.grown0 hN2589.grw).grown hS2593.grw (some_ne (by omega))).grown hg2603 (some_ne (by omega))).grown hS2608.grw (some_ne (by omega))).grown hg2615 (some_ne (by omega)))
      have lt_B2539_B2662 := hN_gtl hN2664 (k2665).lt
      have k2666 := (hS2608.blk.grown hg2615 (some_ne (by omega)))
      have lt_B2587_B2662 := hN_gtl hN2664 (k2666).lt
      have hb2667 := low0 hb2617 hN2664.grw
      refine wpo_move (v := .pointer (some ⟨R, 0, none⟩)) rfl rfl ?_
      have k2668 := (kR2614.grown0 hN2664.grw)
      refine wpo_call (vs := [.pointer (some ⟨R, 0, none⟩), .int .i64 3]) gf_60 (args_cons rfl (args_cons rfl args_nil)) rfl (pick_c (p + 1 + 1 + 1 + 1 + 1 + 1 + 1) 3 (by omega) _ R bs _ _ _ k2668 (by omega) (SlLt.low1 hs hb2667 hlo) (by first | exact hb | exact fun b h => hb b (List.mem_of_mem_take h)) (by first | omega | (rw [List.length_take]; omega))) ?_
      rintro _ w2674 ⟨k2669, rfl, hk2670, hk2671, kR2672, hg2673⟩
      have hb2675 := grown_trans hb2667 hg2673
      refine wpo_indexAddr (o' := (k2669).toNat * 1) es_43 rfl rfl (by omega) (by omega) (by omega) rfl ?_
      have k2676 := (hN2664.blk.grown hg2673 (some_ne (by omega)))
      obtain ⟨x2677, hx2678⟩ := get_lt (l := ([(-1), 5, 6] : List Int)) (i := (k2669).toNat) (show (k2669).toNat < 3 by omega)
      have hm2679 := List.mem_of_getElem? hx2678
      simp only [List.mem_cons, List.not_mem_nil, or_false] at hm2679
      refine wpo_load1 (v := .int .i64 x2677) ot_3 rfl ((rows_range wide_int k2676 hx2678) 0 _ rfl) rfl ?_
      refine wpo_fieldAddr (o' := 1) fo_29_1 rfl rfl rfl ?_
      have k2680 := ((k2666.grown0 hN2664.grw).grown hg2673 (some_ne (by omega)))
      refine wpo_store1 (v := .int .i64 x2677) (cs' := #[.int .i64 (1 + k2559), .int .i64 x2677, .bool (decide (0 < k2573)), .bool (decide (k2580 = 0)), .bool (decide (k2599 = 0))]) ot_3 rfl rfl rfl k2680 (Nat.le_of_ble_eq_true rfl) rfl ?_
      intro w2681 hS2682
      have hb2683 := low1 hb2675 hS2682.grw (by omega)
      refine wpo_nil ?_
      refine blk_n ?_
      refine thn_n ?_
      refine wpf_seq_region ?_
      refine wpo_loadn (vs := [.int .i64 (1 + k2559), .int .i64 x2677, .bool (decide (0 < k2573)), .bool (decide (k2580 = 0)), .bool (decide (k2599 = 0))]) rt_29 rfl rfl (hS2682.blk.rangeL 0 5 rfl) rfl ?_
      have k2684 := (((k2665.grown0 hN2664.grw).grown hg2673 (some_ne (by omega))).grown hS2682.grw (some_ne (by omega)))
      refine wpo_storen (vs := [.int .i64 (1 + k2559), .int .i64 x2677, .bool (decide (0 < k2573)), .bool (decide (k2580 = 0)), .bool (decide (k2599 = 0))]) (cs' := #[.int .i64 (1 + k2559), .int .i64 x2677, .bool (decide (0 < k2573)), .bool (decide (k2580 = 0)), .bool (decide (k2599 = 0))]) rt_29 rfl rfl rfl (by simp [Value.oneCell']) k2684 (Nat.le_of_ble_eq_true rfl) rfl ?_
      intro w2685 hS2686
      have hb2687 := low1 hb2683 hS2686.grw (by omega)
      refine wpo_nil ?_
      refine wpf_ret ?_
      have k2688 := ((kR2672.grown hS2682.grw (some_ne (by omega))).grown hS2686.grw (some_ne (by omega)))
      refine ⟨.agg #[.int .i64 (1 + k2559), .int .i64 x2677, .bool (decide (0 < k2573)), .bool (decide (k2580 = 0)), .bool (decide (k2599 = 0))], resC rfl (resCell_mk (vs := [.int .i64 (1 + k2559), .int .i64 x2677, .bool (decide (0 < k2573)), .bool (decide (k2580 = 0)), .bool (decide (k2599 = 0))]) rt_29 rfl rfl (hS2686.blk.rangeL 0 5 rfl)), ⟨1 + k2559, x2677, decide (0 < k2573), decide (k2580 = 0), decide (k2599 = 0)⟩, (p + 1 + 1 + 1 + 1 + 1 + 1 + 1 + 1), rfl, show (-1 : Int) ≤ 1 + k2559 by omega, show 1 + k2559 ≤ (9 : Int) by omega, show (-1 : Int) ≤ x2677 by omega, show x2677 ≤ (9 : Int) by omega, by omega, by omega, k2688, hb2687⟩
     ·
      have h2689 := of_decide_eq_false h2660
      refine wpf_skip ?_
      refine blk_n ?_
      refine thn_n ?_
      refine wpf_seq_region ?_
      have k2690 := (hS2608.blk.grown hg2615 (some_ne (by omega)))
      refine wpo_loadn (vs := [.int .i64 (1 + k2559), .int .i64 k2566, .bool (decide (0 < k2573)), .bool (decide (k2580 = 0)), .bool (decide (k2599 = 0))]) rt_29 rfl rfl (k2690.rangeL 0 5 rfl) rfl ?_
      have k2691 := (((((k2590.grown0 hN2589.grw).grown hS2593.grw (some_ne (by omega))).grown hg2603 (some_ne (by omega))).grown hS2608.grw (some_ne (by omega))).grown hg2615 (some_ne (by omega)))
      refine wpo_storen (vs := [.int .i64 (1 + k2559), .int .i64 k2566, .bool (decide (0 < k2573)), .bool (decide (k2580 = 0)), .bool (decide (k2599 = 0))]) (cs' := #[.int .i64 (1 + k2559), .int .i64 k2566, .bool (decide (0 < k2573)), .bool (decide (k2580 = 0)), .bool (decide (k2599 = 0))]) rt_29 rfl rfl rfl (by simp [Value.oneCell']) k2691 (Nat.le_of_ble_eq_true rfl) rfl ?_
      intro w2692 hS2693
      have hb2694 := low1 hb2617 hS2693.grw (by omega)
      refine wpo_nil ?_
      refine wpf_ret ?_
      have k2695 := (kR2614.grown hS2693.grw (some_ne (by omega)))
      refine ⟨.agg #[.int .i64 (1 + k2559), .int .i64 k2566, .bool (decide (0 < k2573)), .bool (decide (k2580 = 0)), .bool (decide (k2599 = 0))], resC rfl (resCell_mk (vs := [.int .i64 (1 + k2559), .int .i64 k2566, .bool (decide (0 < k2573)), .bool (decide (k2580 = 0)), .bool (decide (k2599 = 0))]) rt_29 rfl rfl (hS2693.blk.rangeL 0 5 rfl)), ⟨1 + k2559, k2566, decide (0 < k2573), decide (k2580 = 0), decide (k2599 = 0)⟩, (p + 1 + 1 + 1 + 1 + 1 + 1 + 1), rfl, show (-1 : Int) ≤ 1 + k2559 by omega, show 1 + k2559 ≤ (9 : Int) by omega, show (-1 : Int) ≤ k2566 by omega, show k2566 ≤ (9 : Int) by omega, by omega, by omega, k2695, hb2694⟩
  ·
   have h2696 := nt_f h2595
   have h2697 := of_decide_eq_true h2696
   refine wpf_skip ?_
   refine thn_n ?_
   refine wpf_seq ?_
   refine wpf_seq_region ?_
   refine wpo_move (v := .pointer (some ⟨R, 0, none⟩)) rfl rfl ?_
   have k2698 := ((kR2583.grown0 hN2589.grw).grown hS2593.grw (some_ne (by omega)))
   refine wpo_call (vs := [.pointer (some ⟨R, 0, none⟩), .int .i64 40]) gf_60 (args_cons rfl (args_cons rfl args_nil)) rfl (pick_c (p + 1 + 1 + 1 + 1 + 1) 40 (by omega) _ R bs _ _ _ k2698 (by omega) (SlLt.low1 hs hb2594 hlo) (by first | exact hb | exact fun b h => hb b (List.mem_of_mem_take h)) (by first | omega | (rw [List.length_take]; omega))) ?_
   rintro _ w2704 ⟨k2699, rfl, hk2700, hk2701, kR2702, hg2703⟩
   have hb2705 := grown_trans hb2594 hg2703
   refine wpo_nil ?_
   refine wpf_block ?_
   refine wpf_seq_region ?_
   refine wpo_eql (q := decide (k2699 = 0)) rfl rfl rfl rfl ?_
   refine wpo_assign (v := .bool (decide (k2699 = 0))) rfl rfl ?_
   refine wpo_nil ?_
   refine wpf_cond rfl (fun h2706 => ?_) (fun h2706 => ?_)
   ·
    have h2707 := of_decide_eq_true h2706
    refine wpf_region ?_
    refine wpo_fieldAddr (o' := 4) fo_29_4 rfl rfl rfl ?_
    have k2708 := (hS2593.blk.grown hg2703 (some_ne (by omega)))
    refine wpo_store1 (v := .bool true) (cs' := #[.int .i64 (1 + k2559), .int .i64 k2566, .bool (decide (0 < k2573)), .bool (decide (k2580 = 0)), .bool true]) ot_4 rfl rfl rfl k2708 (Nat.le_of_ble_eq_true rfl) rfl ?_
    intro w2709 hS2710
    have hb2711 := low1 hb2705 hS2710.grw (by omega)
    refine wpo_nil ?_
    refine blk_n ?_
    refine thn_n ?_
    refine wpf_seq_region ?_
    refine wpo_loadn (vs := [.int .i64 (1 + k2559), .int .i64 k2566, .bool (decide (0 < k2573)), .bool (decide (k2580 = 0)), .bool true]) rt_29 rfl rfl (hS2710.blk.rangeL 0 5 rfl) rfl ?_
    have k2712 := ((((k2590.grown0 hN2589.grw).grown hS2593.grw (some_ne (by omega))).grown hg2703 (some_ne (by omega))).grown hS2710.grw (some_ne (by omega)))
    refine wpo_storen (vs := [.int .i64 (1 + k2559), .int .i64 k2566, .bool (decide (0 < k2573)), .bool (decide (k2580 = 0)), .bool true]) (cs' := #[.int .i64 (1 + k2559), .int .i64 k2566, .bool (decide (0 < k2573)), .bool (decide (k2580 = 0)), .bool true]) rt_29 rfl rfl rfl (by simp [Value.oneCell']) k2712 (Nat.le_of_ble_eq_true rfl) rfl ?_
    intro w2713 hS2714
    have hb2715 := low1 hb2711 hS2714.grw (by omega)
    refine wpo_nil ?_
    refine wpf_ret ?_
    have k2716 := ((kR2702.grown hS2710.grw (some_ne (by omega))).grown hS2714.grw (some_ne (by omega)))
    refine ⟨.agg #[.int .i64 (1 + k2559), .int .i64 k2566, .bool (decide (0 < k2573)), .bool (decide (k2580 = 0)), .bool true], resC rfl (resCell_mk (vs := [.int .i64 (1 + k2559), .int .i64 k2566, .bool (decide (0 < k2573)), .bool (decide (k2580 = 0)), .bool true]) rt_29 rfl rfl (hS2714.blk.rangeL 0 5 rfl)), ⟨1 + k2559, k2566, decide (0 < k2573), decide (k2580 = 0), true⟩, (p + 1 + 1 + 1 + 1 + 1 + 1), rfl, show (-1 : Int) ≤ 1 + k2559 by omega, show 1 + k2559 ≤ (9 : Int) by omega, show (-1 : Int) ≤ k2566 by omega, show k2566 ≤ (9 : Int) by omega, by omega, by omega, k2716, hb2715⟩
   ·
    have h2717 := of_decide_eq_false h2706
    refine wpf_seq_region ?_
    refine wpo_eql (q := decide (k2699 = 1)) rfl rfl rfl rfl ?_
    refine wpo_assign (v := .bool (decide (k2699 = 1))) rfl rfl ?_
    refine wpo_nil ?_
    refine wpf_cond rfl (fun h2718 => ?_) (fun h2718 => ?_)
    ·
     have h2719 := of_decide_eq_true h2718
     refine wpf_region ?_
     refine wpo_buildSlice (ps := [(0, .int .i64 0), (1, .int .i64 9), (2, .int .i64 (-1))]) (e := 3) (cs := (([0, 9, (-1)] : List Int).flatMap icell).toArray) (parts_cons rfl (parts_cons rfl (parts_cons rfl parts_nil))) (fun _ => by kernel_rfl) rfl ?_
     intro B2720 w2721 hN2722
     have hlB2720 := hN_ge hN2722 hb2705
     have lt_R_B2720 := hN_gtl hN2722 (kR2702).lt
     have k2723 := (((k2590.grown0 hN2589.grw).grown hS2593.grw (some_ne (by omega))).grown hg2703 (some_ne (by omega)))
     have lt_B2539_B2720 := hN_gtl hN2722 (k2723).lt
     have k2724 := (hS2593.blk.grown hg2703 (some_ne (by omega)))
     have lt_B2587_B2720 := hN_gtl hN2722 (k2724).lt
     have hb2725 := low0 hb2705 hN2722.grw
     refine wpo_move (v := .pointer (some ⟨R, 0, none⟩)) rfl rfl ?_
     have k2726 := (kR2702.grown0 hN2722.grw)
     refine wpo_call (vs := [.pointer (some ⟨R, 0, none⟩), .int .i64 3]) gf_60 (args_cons rfl (args_cons rfl args_nil)) rfl (pick_c (p + 1 + 1 + 1 + 1 + 1 + 1) 3 (by omega) _ R bs _ _ _ k2726 (by omega) (SlLt.low1 hs hb2725 hlo) (by first | exact hb | exact fun b h => hb b (List.mem_of_mem_take h)) (by first | omega | (rw [List.length_take]; omega))) ?_
     rintro _ w2732 ⟨k2727, rfl, hk2728, hk2729, kR2730, hg2731⟩
     have hb2733 := grown_trans hb2725 hg2731
     refine wpo_indexAddr (o' := (k2727).toNat * 1) es_43 rfl rfl (by omega) (by omega) (by omega) rfl ?_
     have k2734 := (hN2722.blk.grown hg2731 (some_ne (by omega)))
     obtain ⟨x2735, hx2736⟩ := get_lt (l := ([0, 9, (-1)] : List Int)) (i := (k2727).toNat) (show (k2727).toNat < 3 by omega)
     have hm2737 := List.mem_of_getElem? hx2736
     simp only [List.mem_cons, List.not_mem_nil, or_false] at hm2737
     refine wpo_load1 (v := .int .i64 x2735) ot_3 rfl ((rows_range wide_int k2734 hx2736) 0 _ rfl) rfl ?_
     refine wpo_fieldAddr (o' := 0) fo_29_0 rfl rfl rfl ?_
     have k2738 := ((k2724.grown0 hN2722.grw).grown hg2731 (some_ne (by omega)))
     refine wpo_store1 (v := .int .i64 x2735) (cs' := #[.int .i64 x2735, .int .i64 k2566, .bool (decide (0 < k2573)), .bool (decide (k2580 = 0)), .bool false]) ot_3 rfl rfl rfl k2738 (Nat.le_of_ble_eq_true rfl) rfl ?_
     intro w2739 hS2740
     have hb2741 := low1 hb2733 hS2740.grw (by omega)
     refine wpo_nil ?_
     refine blk_n ?_
     refine thn_n ?_
     refine wpf_seq_region ?_
     refine wpo_loadn (vs := [.int .i64 x2735, .int .i64 k2566, .bool (decide (0 < k2573)), .bool (decide (k2580 = 0)), .bool false]) rt_29 rfl rfl (hS2740.blk.rangeL 0 5 rfl) rfl ?_
     have k2742 := (((k2723.grown0 hN2722.grw).grown hg2731 (some_ne (by omega))).grown hS2740.grw (some_ne (by omega)))
     refine wpo_storen (vs := [.int .i64 x2735, .int .i64 k2566, .bool (decide (0 < k2573)), .bool (decide (k2580 = 0)), .bool false]) (cs' := #[.int .i64 x2735, .int .i64 k2566, .bool (decide (0 < k2573)), .bool (decide (k2580 = 0)), .bool false]) rt_29 rfl rfl rfl (by simp [Value.oneCell']) k2742 (Nat.le_of_ble_eq_true rfl) rfl ?_
     intro w2743 hS2744
     have hb2745 := low1 hb2741 hS2744.grw (by omega)
     refine wpo_nil ?_
     refine wpf_ret ?_
     have k2746 := ((kR2730.grown hS2740.grw (some_ne (by omega))).grown hS2744.grw (some_ne (by omega)))
     refine ⟨.agg #[.int .i64 x2735, .int .i64 k2566, .bool (decide (0 < k2573)), .bool (decide (k2580 = 0)), .bool false], resC rfl (resCell_mk (vs := [.int .i64 x2735, .int .i64 k2566, .bool (decide (0 < k2573)), .bool (decide (k2580 = 0)), .bool false]) rt_29 rfl rfl (hS2744.blk.rangeL 0 5 rfl)), ⟨x2735, k2566, decide (0 < k2573), decide (k2580 = 0), false⟩, (p + 1 + 1 + 1 + 1 + 1 + 1 + 1), rfl, show (-1 : Int) ≤ x2735 by omega, show x2735 ≤ (9 : Int) by omega, show (-1 : Int) ≤ k2566 by omega, show k2566 ≤ (9 : Int) by omega, by omega, by omega, k2746, hb2745⟩
    ·
     have h2747 := of_decide_eq_false h2718
     refine wpf_seq_region ?_
     refine wpo_eql (q := decide (k2699 = 2)) rfl rfl rfl rfl ?_
     refine wpo_assign (v := .bool (decide (k2699 = 2))) rfl rfl ?_
     refine wpo_nil ?_
     refine wpf_cond rfl (fun h2748 => ?_) (fun h2748 => ?_)
     ·
      have h2749 := of_decide_eq_true h2748
      refine wpf_region ?_
      refine wpo_buildSlice (ps := [(0, .int .i64 (-1)), (1, .int .i64 5), (2, .int .i64 6)]) (e := 3) (cs := (([(-1), 5, 6] : List Int).flatMap icell).toArray) (parts_cons rfl (parts_cons rfl (parts_cons rfl parts_nil))) (fun _ => by kernel_rfl) rfl ?_
      intro B2750 w2751 hN2752
      have hlB2750 := hN_ge hN2752 hb2705
      have lt_R_B2750 := hN_gtl hN2752 (kR2702).lt
      have k2753 := (((k2590.grown0 hN2589.grw).grown hS2593.grw (some_ne (by omega))).grown hg2703 (some_ne (by omega)))
      have lt_B2539_B2750 := hN_gtl hN2752 (k2753).lt
      have k2754 := (hS2593.blk.grown hg2703 (some_ne (by omega)))
      have lt_B2587_B2750 := hN_gtl hN2752 (k2754).lt
      have hb2755 := low0 hb2705 hN2752.grw
      refine wpo_move (v := .pointer (some ⟨R, 0, none⟩)) rfl rfl ?_
      have k2756 := (kR2702.grown0 hN2752.grw)
      refine wpo_call (vs := [.pointer (some ⟨R, 0, none⟩), .int .i64 3]) gf_60 (args_cons rfl (args_cons rfl args_nil)) rfl (pick_c (p + 1 + 1 + 1 + 1 + 1 + 1) 3 (by omega) _ R bs _ _ _ k2756 (by omega) (SlLt.low1 hs hb2755 hlo) (by first | exact hb | exact fun b h => hb b (List.mem_of_mem_take h)) (by first | omega | (rw [List.length_take]; omega))) ?_
      rintro _ w2762 ⟨k2757, rfl, hk2758, hk2759, kR2760, hg2761⟩
      have hb2763 := grown_trans hb2755 hg2761
      refine wpo_indexAddr (o' := (k2757).toNat * 1) es_43 rfl rfl (by omega) (by omega) (by omega) rfl ?_
      have k2764 := (hN2752.blk.grown hg2761 (some_ne (by omega)))
      obtain ⟨x2765, hx2766⟩ := get_lt (l := ([(-1), 5, 6] : List Int)) (i := (k2757).toNat) (show (k2757).toNat < 3 by omega)
      have hm2767 := List.mem_of_getElem? hx2766
      simp only [List.mem_cons, List.not_mem_nil, or_false] at hm2767
      refine wpo_load1 (v := .int .i64 x2765) ot_3 rfl ((rows_range wide_int k2764 hx2766) 0 _ rfl) rfl ?_
      refine wpo_fieldAddr (o' := 1) fo_29_1 rfl rfl rfl ?_
      have k2768 := ((k2754.grown0 hN2752.grw).grown hg2761 (some_ne (by omega)))
      refine wpo_store1 (v := .int .i64 x2765) (cs' := #[.int .i64 (1 + k2559), .int .i64 x2765, .bool (decide (0 < k2573)), .bool (decide (k2580 = 0)), .bool false]) ot_3 rfl rfl rfl k2768 (Nat.le_of_ble_eq_true rfl) rfl ?_
      intro w2769 hS2770
      have hb2771 := low1 hb2763 hS2770.grw (by omega)
      refine wpo_nil ?_
      refine blk_n ?_
      refine thn_n ?_
      refine wpf_seq_region ?_
      refine wpo_loadn (vs := [.int .i64 (1 + k2559), .int .i64 x2765, .bool (decide (0 < k2573)), .bool (decide (k2580 = 0)), .bool false]) rt_29 rfl rfl (hS2770.blk.rangeL 0 5 rfl) rfl ?_
      have k2772 := (((k2753.grown0 hN2752.grw).grown hg2761 (some_ne (by omega))).grown hS2770.grw (some_ne (by omega)))
      refine wpo_storen (vs := [.int .i64 (1 + k2559), .int .i64 x2765, .bool (decide (0 < k2573)), .bool (decide (k2580 = 0)), .bool false]) (cs' := #[.int .i64 (1 + k2559), .int .i64 x2765, .bool (decide (0 < k2573)), .bool (decide (k2580 = 0)), .bool false]) rt_29 rfl rfl rfl (by simp [Value.oneCell']) k2772 (Nat.le_of_ble_eq_true rfl) rfl ?_
      intro w2773 hS2774
      have hb2775 := low1 hb2771 hS2774.grw (by omega)
      refine wpo_nil ?_
      refine wpf_ret ?_
      have k2776 := ((kR2760.grown hS2770.grw (some_ne (by omega))).grown hS2774.grw (some_ne (by omega)))
      refine ⟨.agg #[.int .i64 (1 + k2559), .int .i64 x2765, .bool (decide (0 < k2573)), .bool (decide (k2580 = 0)), .bool false], resC rfl (resCell_mk (vs := [.int .i64 (1 + k2559), .int .i64 x2765, .bool (decide (0 < k2573)), .bool (decide (k2580 = 0)), .bool false]) rt_29 rfl rfl (hS2774.blk.rangeL 0 5 rfl)), ⟨1 + k2559, x2765, decide (0 < k2573), decide (k2580 = 0), false⟩, (p + 1 + 1 + 1 + 1 + 1 + 1 + 1), rfl, show (-1 : Int) ≤ 1 + k2559 by omega, show 1 + k2559 ≤ (9 : Int) by omega, show (-1 : Int) ≤ x2765 by omega, show x2765 ≤ (9 : Int) by omega, by omega, by omega, k2776, hb2775⟩
     ·
      have h2777 := of_decide_eq_false h2748
      refine wpf_skip ?_
      refine blk_n ?_
      refine thn_n ?_
      refine wpf_seq_region ?_
      have k2778 := (hS2593.blk.grown hg2703 (some_ne (by omega)))
      refine wpo_loadn (vs := [.int .i64 (1 + k2559), .int .i64 k2566, .bool (decide (0 < k2573)), .bool (decide (k2580 = 0)), .bool false]) rt_29 rfl rfl (k2778.rangeL 0 5 rfl) rfl ?_
      have k2779 := (((k2590.grown0 hN2589.grw).grown hS2593.grw (some_ne (by omega))).grown hg2703 (some_ne (by omega)))
      refine wpo_storen (vs := [.int .i64 (1 + k2559), .int .i64 k2566, .bool (decide (0 < k2573)), .bool (decide (k2580 = 0)), .bool false]) (cs' := #[.int .i64 (1 + k2559), .int .i64 k2566, .bool (decide (0 < k2573)), .bool (decide (k2580 = 0)), .bool false]) rt_29 rfl rfl rfl (by simp [Value.oneCell']) k2779 (Nat.le_of_ble_eq_true rfl) rfl ?_
      intro w2780 hS2781
      have hb2782 := low1 hb2705 hS2781.grw (by omega)
      refine wpo_nil ?_
      refine wpf_ret ?_
      have k2783 := (kR2702.grown hS2781.grw (some_ne (by omega)))
      refine ⟨.agg #[.int .i64 (1 + k2559), .int .i64 k2566, .bool (decide (0 < k2573)), .bool (decide (k2580 = 0)), .bool false], resC rfl (resCell_mk (vs := [.int .i64 (1 + k2559), .int .i64 k2566, .bool (decide (0 < k2573)), .bool (decide (k2580 = 0)), .bool false]) rt_29 rfl rfl (hS2781.blk.rangeL 0 5 rfl)), ⟨1 + k2559, k2566, decide (0 < k2573), decide (k2580 = 0), false⟩, (p + 1 + 1 + 1 + 1 + 1 + 1), rfl, show (-1 : Int) ≤ 1 + k2559 by omega, show 1 + k2559 ≤ (9 : Int) by omega, show (-1 : Int) ≤ k2566 by omega, show k2566 ≤ (9 : Int) by omega, by omega, by omega, k2783, hb2782⟩

theorem l6Open_c (bs : List Int) (a : Option Addr) (c : Nat) (w : World) (hn : bs.length ≤ 1048576) (hc : bs.length ≤ c) : CallsR Try.prog 59 #[.slice a bs.length c] w (fun v w' => ∃ R : Nat, v = .pointer (some ⟨R, 0, none⟩) ∧ w.heap.size ≤ R ∧ Blk w' R 121 #[.slice a (bs.take 2000).length c, .int .i64 0] ∧ w.grownBy w' none) := by
 refine calls_of_wpf (n := 11) Try.func59 rfl Try.ntmps59 rfl ?_
 have hb0 := World.grownBy.refl w none
 refine wpf_seq_region ?_
 refine wpo_assign (v := .pointer none) rfl rfl ?_
 refine wpo_nil ?_
 refine wpf_seq ?_
 refine wpf_seq_region ?_
 refine wpo_move (v := .slice a bs.length c) rfl rfl ?_
 refine wpo_len (by kernel_rfl) rfl rfl ?_
 refine wpo_gtr (q := decide (2000 < (bs.length : Int))) rfl rfl rfl rfl ?_
 refine wpo_nil ?_
 refine wpf_cond rfl (fun h2784 => ?_) (fun h2784 => ?_)
 ·
  have h2785 := of_decide_eq_true h2784
  refine wpf_region ?_
  refine wpo_move (v := .slice a bs.length c) rfl rfl ?_
  refine wpo_cut (e := 5) (sz := 1) (h := 2000) (by kernel_rfl) (by kernel_rfl) rfl rfl (by omega) rfl ?_
  refine wpo_assign (v := .slice a 2000 c) rfl rfl ?_
  refine wpo_nil ?_
  refine thn_n ?_
  refine wpf_seq_region ?_
  refine wpo_move (v := .slice a 2000 c) rfl rfl ?_
  refine wpo_build (ps := [(0, .slice a 2000 c)]) (v := .agg #[.slice a 2000 c, .int .i64 0]) (parts_cons rfl parts_nil) (by kernel_rfl) rfl ?_
  refine wpo_box (v := .agg #[.slice a 2000 c, .int .i64 0]) (cs := #[.slice a 2000 c, .int .i64 0]) rfl rfl rfl ?_
  intro B2786 w2787 hN2788
  have hlB2786 := hN_ge hN2788 hb0
  have hb2789 := low0 hb0 hN2788.grw
  refine wpo_assign (v := .pointer (some ⟨B2786, 0, none⟩)) rfl rfl ?_
  refine wpo_nil ?_
  refine wpf_ret ?_
  have hlen : 2000 = (bs.take 2000).length := by rw [List.length_take]; omega
  have kk := hN2788.blk
  rw [hlen] at kk
  refine ⟨.pointer (some ⟨B2786, 0, none⟩), res1 rfl rfl, B2786, rfl, hlB2786, kk, hb2789⟩
 ·
  have h2790 := of_decide_eq_false h2784
  refine wpf_skip ?_
  refine thn_n ?_
  refine wpf_seq_region ?_
  refine wpo_move (v := .slice a bs.length c) rfl rfl ?_
  refine wpo_build (ps := [(0, .slice a bs.length c)]) (v := .agg #[.slice a bs.length c, .int .i64 0]) (parts_cons rfl parts_nil) (by kernel_rfl) rfl ?_
  refine wpo_box (v := .agg #[.slice a bs.length c, .int .i64 0]) (cs := #[.slice a bs.length c, .int .i64 0]) rfl rfl rfl ?_
  intro B2791 w2792 hN2793
  have hlB2791 := hN_ge hN2793 hb0
  have hb2794 := low0 hb0 hN2793.grw
  refine wpo_assign (v := .pointer (some ⟨B2791, 0, none⟩)) rfl rfl ?_
  refine wpo_nil ?_
  refine wpf_ret ?_
  have hlen : bs.length = (bs.take 2000).length := by rw [List.length_take]; omega
  have kk := hN2793.blk
  rw [hlen] at kk
  refine ⟨.pointer (some ⟨B2791, 0, none⟩), res1 rfl rfl, B2791, rfl, hlB2791, kk, hb2794⟩

theorem DrawReachIn_c (bs : List Int) (a : Option Addr) (c : Nat) (w : World) (hs0 : SlAt w a 1 (bs.map bcell)) (hb : ∀ b ∈ bs, 0 ≤ b ∧ b ≤ 255) (hn : bs.length ≤ 1048576) (hc : bs.length ≤ c) : CallsR Try.prog 19 #[.slice a bs.length c] w (fun v w' => ∃ (B cap : Nat) (xs : List Rt) (r : Rt), v = .tuple #[.slice (some ⟨B, 0, none⟩) xs.length cap, .agg #[.int .i64 r.th, .int .i64 r.ve, .bool r.rd, .bool r.wr, .bool r.wk]] ∧ Dw.Own w' B 29 5 cap xs.length (xs.flatMap Rt.cells) ∧ xs.length ≤ 5 ∧ w.grownBy w' none) := by
 refine calls_of_wpf (n := 51) Try.func19 rfl Try.ntmps19 rfl ?_
 have hb0 := World.grownBy.refl w none
 have hs := SlAt.lt wide_b (by omega) hs0
 refine wpf_seq_region ?_
 refine wpo_assign (v := .slice none 0 0) rfl rfl ?_
 refine wpo_alloc (cs := #[.int .i64 0, .int .i64 0, .bool false, .bool false, .bool false]) zt_29 rfl rfl ?_
 intro B2795 w2796 hN2797
 have hlB2795 := hN_ge hN2797 hb0
 have hb2798 := low0 hb0 hN2797.grw
 refine wpo_nil ?_
 refine wpf_seq_region ?_
 refine wpo_move (v := .slice a bs.length c) rfl rfl ?_
 refine wpo_call (vs := [.slice a bs.length c]) gf_59 (args_cons rfl args_nil) rfl (l6Open_c bs a c _ (by omega) (by omega)) ?_
 rintro _ w2803 ⟨R2799, rfl, hge2800, kR2801, hg2802⟩
 have hb2804 := low0 hb2798 hg2802
 have hlR2799 := Nat.le_trans hb2798.size hge2800
 have lt_B2795_R2799 := Nat.lt_of_lt_of_le (hN2797.blk).lt hge2800
 refine wpo_assign (v := .pointer (some ⟨R2799, 0, none⟩)) rfl rfl ?_
 refine wpo_nil ?_
 refine wpf_seq_region ?_
 refine wpo_buildSlice (ps := []) (e := 29) (cs := (([] : List Rt).flatMap Rt.cells).toArray) parts_nil (fun _ => by kernel_rfl) rfl ?_
 intro B2805 w2806 hN2807
 have hlB2805 := hN_ge hN2807 hb2804
 have k2808 := (hN2797.blk.grown0 hg2802)
 have lt_B2795_B2805 := hN_gtl hN2807 (k2808).lt
 have lt_R2799_B2805 := hN_gtl hN2807 (kR2801).lt
 have hb2809 := low0 hb2804 hN2807.grw
 refine wpo_assign (v := .slice (some ⟨B2805, 0, none⟩) 0 0) rfl rfl ?_
 refine wpo_nil ?_
 refine wpf_seq ?_
 refine wpf_seq_region ?_
 refine wpo_move (v := .pointer (some ⟨R2799, 0, none⟩)) rfl rfl ?_
 have k2810 := (kR2801.grown0 hN2807.grw)
 refine wpo_call (vs := [.pointer (some ⟨R2799, 0, none⟩), .int .i64 5]) gf_60 (args_cons rfl (args_cons rfl args_nil)) rfl (pick_c 0 5 (by omega) _ R2799 (bs.take 2000) _ _ _ k2810 (by omega) (SlLt.low0 (SlLt.take hs 2000) hb2809) (by first | exact hb | exact fun b h => hb b (List.mem_of_mem_take h)) (by first | omega | (rw [List.length_take]; omega))) ?_
 rintro _ w2816 ⟨k2811, rfl, hk2812, hk2813, kR2814, hg2815⟩
 have hb2817 := low1 hb2809 hg2815 (by omega)
 have kR2814e : Blk w2816 R2799 121 #[.slice a ((bs.take 2000).length) c, .int .i64 1] := kR2814
 refine wpo_assign (v := .int .i64 k2811) rfl rfl ?_
 refine wpo_nil ?_
 refine wpf_block ?_
 have k2818 := (hN2807.blk.grown hg2815 (some_ne (by omega)))
 have k2819 := ((k2808.grown0 hN2807.grw).grown hg2815 (some_ne (by omega)))
 refine wpf_loopN (fun mm f' w' => ∃ (n : Int) (p : Int) (Bq : Nat) (cq : Nat) (ys : List Rt), mm = n.toNat ∧ (0 ≤ n ∧ n ≤ 4) ∧ (0 ≤ p ∧ p ≤ 40 - 9 * n) ∧ (ys.length : Int) ≤ 4 - n ∧ Dw.Own w' Bq 29 5 cq ys.length (ys.flatMap Rt.cells) ∧ w.heap.size ≤ Bq ∧ B2795 ≠ Bq ∧ R2799 ≠ Bq ∧ f' 5 = .slice (some ⟨Bq, 0, none⟩) ys.length cq ∧ f' 6 = .int .i64 n ∧ f' 2 = .slice none 0 0 ∧ f' 3 = .pointer (some ⟨B2795, 0, none⟩) ∧ f' 4 = .pointer (some ⟨R2799, 0, none⟩) ∧ w.grownBy w' none ∧ Blk w' B2795 29 #[.int .i64 0, .int .i64 0, .bool false, .bool false, .bool false] ∧ Blk w' R2799 121 #[.slice a ((bs.take 2000).length) c, .int .i64 p]) (k2811.toNat) ⟨k2811, 1, B2805, 0, ([] : List Rt), rfl, (by omega), (by omega), (by simp only [List.length_nil]; omega), (Own.rows wide_rt k2818 (by simp)), hlB2805, (by omega), (by omega), rfl, rfl, rfl, rfl, rfl, hb2817, k2819, kR2814e⟩ ?_
 rintro mm f2820 w2821 ⟨n, p, Bq, cq, ys, hm2823, hnn, hpp, hyl, hOwn, hlBq, hne0, hne1, e2824, e2825, e2826, e2827, e2828, hb2822, k2829, k2830⟩
 refine wpf_seq ?_
 refine wpf_seq_region ?_
 refine wpo_move (v := .int .i64 n) e2825 rfl ?_
 refine wpo_gtr (q := decide (0 < n)) rfl rfl rfl rfl ?_
 refine wpo_nil ?_
 refine wpf_cond rfl (fun h2831 => ?_) (fun h2831 => ?_)
 ·
  have h2832 := of_decide_eq_true h2831
  refine wpf_skip ?_
  refine thn_n ?_
  refine wpf_seq ?_
  refine wpf_block ?_
  refine wpf_region ?_
  refine wpo_move (v := .slice (some ⟨Bq, 0, none⟩) ys.length cq) e2824 rfl ?_
  refine wpo_move (v := .pointer (some ⟨R2799, 0, none⟩)) e2828 rfl ?_
  refine wpo_call (vs := [.pointer (some ⟨R2799, 0, none⟩)]) gf_61 (args_cons rfl args_nil) rfl (l71Right_c p (by omega) _ R2799 (bs.take 2000) _ _ _ k2830 (by omega) (SlLt.low0 (SlLt.take hs 2000) hb2822) (by first | exact hb | exact fun b h => hb b (List.mem_of_mem_take h)) (by first | omega | (rw [List.length_take]; omega))) ?_
  rintro _ w2843 ⟨r2833, p2834, rfl, hr2835, hr2836, hr2837, hr2838, hp2839, hp2840, kR2841, hg2842⟩
  have hb2844 := low1 hb2822 hg2842 (by omega)
  refine wpo_buildSlice (ps := [(0, .agg #[.int .i64 r2833.th, .int .i64 r2833.ve, .bool r2833.rd, .bool r2833.wr, .bool r2833.wk])]) (e := 29) (cs := (([r2833] : List Rt).flatMap Rt.cells).toArray) (parts_cons rfl parts_nil) (fun _ => by kernel_rfl) rfl ?_
  intro B2845 w2846 hN2847
  have hlB2845 := hN_ge hN2847 hb2844
  have k2848 := (k2829.grown hg2842 (some_ne (by omega)))
  have lt_B2795_B2845 := hN_gtl hN2847 (k2848).lt
  have lt_R2799_B2845 := hN_gtl hN2847 (kR2841).lt
  have k2849 := (hOwn.grown hg2842 (some_ne (by omega)))
  have lt_Bq_B2845 := hN_gtl hN2847 (k2849).lt
  have hb2850 := low0 hb2844 hN2847.grw
  have k2851 := (k2849.grown0 hN2847.grw)
  have k2852 := (k2848.grown0 hN2847.grw)
  have k2853 := (kR2841.grown0 hN2847.grw)
  refine wpo_append (g := Rt.cells) (ys := ys) (zs := ([r2833] : List Rt)) mk_27 rfl wide_rt (by omega) onec_rt rfl rfl k2851 (rows_sl wide_rt hN2847.blk) (by simp only [List.length_cons, List.length_nil]; omega) (by omega) rfl ?_
  intro B2854 cap2855 w2856 hO2857 hg2858 hor2859
  have hlB2854 : w.heap.size ≤ B2854 := by rcases hor2859 with h | h; (rw [h]; exact hlBq); (rw [h]; exact hb2850.size)
  have ne_B2795_B2854 : B2795 ≠ B2854 := by have h := (k2852).lt; omega
  have ne_R2799_B2854 : R2799 ≠ B2854 := by have h := (k2853).lt; omega
  have ne_B2845_B2854 : B2845 ≠ B2854 := by have h := (hN2847.blk).lt; omega
  have hb2860 := low1 hb2850 hg2858 (by omega)
  refine wpo_assign (v := .slice (some ⟨B2854, 0, none⟩) ((ys ++ ([r2833] : List Rt)).length) cap2855) rfl rfl ?_
  refine wpo_nil ?_
  refine blk_n ?_
  refine thn_n ?_
  refine wpf_region ?_
  refine wpo_move (v := .int .i64 n) e2825 rfl ?_
  refine wpo_sub (c := n - 1) rfl rfl (by omega) (by omega) (by omega) rfl ?_
  refine wpo_assign (v := .int .i64 (n - 1)) rfl rfl ?_
  refine wpo_nil ?_
  refine thn_n ?_
  have k2861 := (k2852.grown hg2858 (some_ne (by omega)))
  have k2862 := (k2853.grown hg2858 (some_ne (by omega)))
  exact ⟨(n - 1).toNat, by omega, (n - 1), p2834, B2854, cap2855, (ys ++ ([r2833] : List Rt)), rfl, (by omega), (by omega), (by simp only [List.length_append, List.length_cons, List.length_nil]; omega), hO2857, hlB2854, (by omega), (by omega), rfl, rfl, e2826, e2827, e2828, hb2860, k2861, k2862⟩
 ·
  have h2863 := of_decide_eq_false h2831
  refine wpf_exit ?_
  refine thn_e ?_
  refine thn_e ?_
  refine blk_e ?_
  refine thn_n ?_
  refine wpf_seq_region ?_
  refine wpo_move (v := .pointer (some ⟨R2799, 0, none⟩)) e2828 rfl ?_
  refine wpo_call (vs := [.pointer (some ⟨R2799, 0, none⟩)]) gf_61 (args_cons rfl args_nil) rfl (l71Right_c p (by omega) _ R2799 (bs.take 2000) _ _ _ k2830 (by omega) (SlLt.low0 (SlLt.take hs 2000) hb2822) (by first | exact hb | exact fun b h => hb b (List.mem_of_mem_take h)) (by first | omega | (rw [List.length_take]; omega))) ?_
  rintro _ w2874 ⟨r2864, p2865, rfl, hr2866, hr2867, hr2868, hr2869, hp2870, hp2871, kR2872, hg2873⟩
  have hb2875 := low1 hb2822 hg2873 (by omega)
  refine wpo_alloc (cs := #[.int .i64 0, .int .i64 0, .bool false, .bool false, .bool false]) zt_29 rfl rfl ?_
  intro B2876 w2877 hN2878
  have hlB2876 := hN_ge hN2878 hb2875
  have k2879 := (k2829.grown hg2873 (some_ne (by omega)))
  have lt_B2795_B2876 := hN_gtl hN2878 (k2879).lt
  have lt_R2799_B2876 := hN_gtl hN2878 (kR2872).lt
  have k2880 := (hOwn.grown hg2873 (some_ne (by omega)))
  have lt_Bq_B2876 := hN_gtl hN2878 (k2880).lt
  have hb2881 := low0 hb2875 hN2878.grw
  refine wpo_storen (vs := [.int .i64 r2864.th, .int .i64 r2864.ve, .bool r2864.rd, .bool r2864.wr, .bool r2864.wk]) (cs' := #[.int .i64 r2864.th, .int .i64 r2864.ve, .bool r2864.rd, .bool r2864.wr, .bool r2864.wk]) rt_29 rfl rfl rfl (by simp [Value.oneCell']) hN2878.blk (Nat.le_of_ble_eq_true rfl) rfl ?_
  intro w2882 hS2883
  have hb2884 := low1 hb2881 hS2883.grw (by omega)
  refine wpo_nil ?_
  refine wpf_seq ?_
  refine wpf_seq_region ?_
  refine wpo_move (v := .slice (some ⟨Bq, 0, none⟩) ys.length cq) e2824 rfl ?_
  refine wpo_len (by kernel_rfl) rfl rfl ?_
  refine wpo_gtr (q := decide (0 < (ys.length : Int))) rfl rfl rfl rfl ?_
  refine wpo_move (v := .bool (decide (0 < (ys.length : Int)))) rfl rfl ?_
  rcases bcases (decide (0 < (ys.length : Int))) with h2893 | h2893
  ·
   have h2894 := of_decide_eq_true h2893
   refine wpo_run rfl rfl rfl h2893 ?_
   refine wpo_move (v := .pointer (some ⟨R2799, 0, none⟩)) e2828 rfl ?_
   refine wpo_run rfl rfl rfl h2893 ?_
   have k2895 := ((kR2872.grown0 hN2878.grw).grown hS2883.grw (some_ne (by omega)))
   refine wpo_call (vs := [.pointer (some ⟨R2799, 0, none⟩), .int .i64 2]) gf_60 (args_cons rfl (args_cons rfl args_nil)) rfl (pick_c p2865 2 (by omega) _ R2799 (bs.take 2000) _ _ _ k2895 (by omega) (SlLt.low0 (SlLt.take hs 2000) hb2884) (by first | exact hb | exact fun b h => hb b (List.mem_of_mem_take h)) (by first | omega | (rw [List.length_take]; omega))) ?_
   rintro _ w2901 ⟨k2896, rfl, hk2897, hk2898, kR2899, hg2900⟩
   have hb2902 := low1 hb2884 hg2900 (by omega)
   refine wpo_run rfl rfl rfl h2893 ?_
   refine wpo_eql (q := decide (k2896 = 0)) rfl rfl rfl rfl ?_
   refine wpo_pickt (v := .bool (decide (k2896 = 0))) rfl h2893 rfl rfl ?_
   refine wpo_nil ?_
   refine wpf_cond rfl (fun h2903 => ?_) (fun h2903 => ?_)
   ·
    have h2904 := of_decide_eq_true h2903
    refine wpf_drawI (m := 16) [[], [], [], [2], [1, 2, 3], [0, 1, 2, 3, 4], [0, 1, 2, 3, 4, 5], [], [1, 2, 3, 4, 7], [1, 2, 3, 4, 7, 8], [], [1, 2, 3, 4, 7, 8, 10], [1, 2, 3, 4, 7, 8, 10, 11], [], [1, 2, 3, 4, 7, 8, 10, 11, 13], [1, 2, 3, 4, 7, 8, 10, 11, 13, 14], [0, 1, 2, 3, 4, 5, 6, 7, 8, 9, 10, 11, 12, 13, 14, 15], [0, 1, 2, 3, 4, 5, 6, 7, 8, 9, 10, 11, 12, 13, 14, 15, 16]] (fun S F w' => ∃ (k3015 : Int) (x3023 : Rt) (k3025 : Int) (k3032 : Int) (k3039 : Int), w2901.grownBy w' (some R2799) ∧ F 2 = .slice none 0 0 ∧ F 3 = .pointer (some ⟨B2795, 0, none⟩) ∧ F 4 = .pointer (some ⟨R2799, 0, none⟩) ∧ F 5 = .slice (some ⟨Bq, 0, none⟩) ys.length cq ∧ F 7 = .pointer (some ⟨B2876, 0, none⟩) ∧ (S 4 = false → Blk w' R2799 121 #[.slice a ((bs.take 2000).length) c, .int .i64 (p2865 + 1)]) ∧ (S 0 = true → F 32 = .slice (some ⟨Bq, 0, none⟩) ys.length cq) ∧ (S 1 = true → F 33 = .pointer (some ⟨R2799, 0, none⟩)) ∧ (S 2 = true → F 34 = .slice (some ⟨Bq, 0, none⟩) ys.length cq) ∧ (S 3 = true → F 35 = .int .i64 (ys.length : Int)) ∧ (S 4 = true → F 36 = .int .i64 k3015 ∧ 0 ≤ k3015 ∧ (k3015 < (ys.length : Int) ∨ k3015 = 0) ∧ (S 8 = false → Blk w' R2799 121 #[.slice a ((bs.take 2000).length) c, .int .i64 (p2865 + 1 + 1)])) ∧ (S 5 = true → F 37 = .pointer (some ⟨Bq, (k3015).toNat * 5, none⟩)) ∧ (S 6 = true → F 38 = .agg #[.int .i64 x3023.th, .int .i64 x3023.ve, .bool x3023.rd, .bool x3023.wr, .bool x3023.wk] ∧ ys[(k3015).toNat]? = some x3023) ∧ (S 7 = true → F 39 = .pointer (some ⟨R2799, 0, none⟩)) ∧ (S 8 = true → F 40 = .int .i64 k3025 ∧ 0 ≤ k3025 ∧ (k3025 < 2 ∨ k3025 = 0) ∧ (S 11 = false → Blk w' R2799 121 #[.slice a ((bs.take 2000).length) c, .int .i64 (p2865 + 1 + 1 + 1)])) ∧ (S 9 = true → F 41 = .bool (decide (k3025 = 0))) ∧ (S 10 = true → F 42 = .pointer (some ⟨R2799, 0, none⟩)) ∧ (S 11 = true → F 43 = .int .i64 k3032 ∧ 0 ≤ k3032 ∧ (k3032 < 2 ∨ k3032 = 0) ∧ (S 14 = false → Blk w' R2799 121 #[.slice a ((bs.take 2000).length) c, .int .i64 (p2865 + 1 + 1 + 1 + 1)])) ∧ (S 12 = true → F 44 = .bool (decide (k3032 = 0))) ∧ (S 13 = true → F 45 = .pointer (some ⟨R2799, 0, none⟩)) ∧ (S 14 = true → F 46 = .int .i64 k3039 ∧ 0 ≤ k3039 ∧ (k3039 < 2 ∨ k3039 = 0) ∧ Blk w' R2799 121 #[.slice a ((bs.take 2000).length) c, .int .i64 (p2865 + 1 + 1 + 1 + 1 + 1)]) ∧ (S 15 = true → F 47 = .bool (decide (k3039 = 0)))) mixed_ (by kernel_rfl) ⟨0, Rt.zero, 0, 0, 0, grown_drew _, e2826, e2827, e2828, e2824, rfl, fun _ => (kR2899).grown0 (grown_drew _), fun h => not_begun h, fun h => not_begun h, fun h => not_begun h, fun h => not_begun h, fun h => not_begun h, fun h => not_begun h, fun h => not_begun h, fun h => not_begun h, fun h => not_begun h, fun h => not_begun h, fun h => not_begun h, fun h => not_begun h, fun h => not_begun h, fun h => not_begun h, fun h => not_begun h, fun h => not_begun h⟩ ?_ ?_
    ·
     refine preL_cons (fun S F w3046 hS hbef hcl hI => ?_) ?_
     ·
      obtain ⟨k3015, x3023, k3025, k3032, k3039, hi3047, e3048, e3049, e3050, e3051, e3052, c_old_R2799, c_0, c_1, c_2, c_3, c_4, c_5, c_6, c_7, c_8, c_9, c_10, c_11, c_12, c_13, c_14, c_15⟩ := hI
      have hb3053 := low1 hb2902 hi3047 (by omega)
      refine wpo_move (v := .slice (some ⟨Bq, 0, none⟩) ys.length cq) e3051 rfl ?_
      exact wpo_nil ⟨k3015, x3023, k3025, k3032, k3039, hi3047, e3048, e3049, e3050, e3051, e3052, fun h => c_old_R2799 h, fun _ => rfl, c_1, c_2, c_3, c_4, fun h => undone 5 hS hcl rfl h, fun h => undone 6 hS hcl rfl h, c_7, c_8, c_9, c_10, c_11, c_12, c_13, c_14, c_15⟩
     refine preL_cons (fun S F w3054 hS hbef hcl hI => ?_) ?_
     ·
      obtain ⟨k3015, x3023, k3025, k3032, k3039, hi3055, e3056, e3057, e3058, e3059, e3060, c_old_R2799, c_0, c_1, c_2, c_3, c_4, c_5, c_6, c_7, c_8, c_9, c_10, c_11, c_12, c_13, c_14, c_15⟩ := hI
      have hb3061 := low1 hb2902 hi3055 (by omega)
      refine wpo_move (v := .pointer (some ⟨R2799, 0, none⟩)) e3058 rfl ?_
      exact wpo_nil ⟨k3015, x3023, k3025, k3032, k3039, hi3055, e3056, e3057, e3058, e3059, e3060, fun h => c_old_R2799 h, c_0, fun _ => rfl, c_2, c_3, fun h => undone 4 hS hcl rfl h, fun h => undone 5 hS hcl rfl h, fun h => undone 6 hS hcl rfl h, c_7, fun h => undone 8 hS hcl rfl h, fun h => undone 9 hS hcl rfl h, c_10, fun h => undone 11 hS hcl rfl h, fun h => undone 12 hS hcl rfl h, c_13, fun h => undone 14 hS hcl rfl h, fun h => undone 15 hS hcl rfl h⟩
     refine preL_cons (fun S F w3062 hS hbef hcl hI => ?_) ?_
     ·
      obtain ⟨k3015, x3023, k3025, k3032, k3039, hi3063, e3064, e3065, e3066, e3067, e3068, c_old_R2799, c_0, c_1, c_2, c_3, c_4, c_5, c_6, c_7, c_8, c_9, c_10, c_11, c_12, c_13, c_14, c_15⟩ := hI
      have hb3069 := low1 hb2902 hi3063 (by omega)
      refine wpo_move (v := .slice (some ⟨Bq, 0, none⟩) ys.length cq) e3067 rfl ?_
      exact wpo_nil ⟨k3015, x3023, k3025, k3032, k3039, hi3063, e3064, e3065, e3066, e3067, e3068, fun h => c_old_R2799 h, c_0, c_1, fun _ => rfl, fun h => undone 3 hS hcl rfl h, fun h => undone 4 hS hcl rfl h, fun h => undone 5 hS hcl rfl h, fun h => undone 6 hS hcl rfl h, c_7, fun h => undone 8 hS hcl rfl h, fun h => undone 9 hS hcl rfl h, c_10, fun h => undone 11 hS hcl rfl h, fun h => undone 12 hS hcl rfl h, c_13, fun h => undone 14 hS hcl rfl h, fun h => undone 15 hS hcl rfl h⟩
     refine preL_cons (fun S F w3070 hS hbef hcl hI => ?_) ?_
     ·
      obtain ⟨k3015, x3023, k3025, k3032, k3039, hi3071, e3072, e3073, e3074, e3075, e3076, c_old_R2799, c_0, c_1, c_2, c_3, c_4, c_5, c_6, c_7, c_8, c_9, c_10, c_11, c_12, c_13, c_14, c_15⟩ := hI
      have hb3077 := low1 hb2902 hi3071 (by omega)
      obtain e3078 := c_2 (ready_of 2 hbef rfl)
      refine wpo_len (by kernel_rfl) e3078 rfl ?_
      exact wpo_nil ⟨k3015, x3023, k3025, k3032, k3039, hi3071, e3072, e3073, e3074, e3075, e3076, fun h => c_old_R2799 h, c_0, c_1, c_2, fun _ => rfl, fun h => undone 4 hS hcl rfl h, fun h => undone 5 hS hcl rfl h, fun h => undone 6 hS hcl rfl h, c_7, fun h => undone 8 hS hcl rfl h, fun h => undone 9 hS hcl rfl h, c_10, fun h => undone 11 hS hcl rfl h, fun h => undone 12 hS hcl rfl h, c_13, fun h => undone 14 hS hcl rfl h, fun h => undone 15 hS hcl rfl h⟩
     refine preL_cons (fun S F w3079 hS hbef hcl hI => ?_) ?_
     ·
      obtain ⟨k3015, x3023, k3025, k3032, k3039, hi3080, e3081, e3082, e3083, e3084, e3085, c_old_R2799, c_0, c_1, c_2, c_3, c_4, c_5, c_6, c_7, c_8, c_9, c_10, c_11, c_12, c_13, c_14, c_15⟩ := hI
      have hb3086 := low1 hb2902 hi3080 (by omega)
      obtain e3087 := c_1 (ready_of 1 hbef rfl)
      obtain e3088 := c_2 (ready_of 2 hbef rfl)
      obtain e3089 := c_3 (ready_of 3 hbef rfl)
      refine wpo_call (vs := [.pointer (some ⟨R2799, 0, none⟩), .int .i64 (ys.length : Int)]) gf_60 (args_cons e3087 (args_cons e3089 args_nil)) rfl (pick_c (p2865 + 1) (ys.length : Int) (by omega) _ R2799 (bs.take 2000) _ _ _ (c_old_R2799 hS) (by omega) (SlLt.low0 (SlLt.take hs 2000) hb3086) (by first | exact hb | exact fun b h => hb b (List.mem_of_mem_take h)) (by first | omega | (rw [List.length_take]; omega))) ?_
      rintro _ w3095 ⟨k3090, rfl, hk3091, hk3092, kR3093, hg3094⟩
      have hb3096 := low1 hb3086 hg3094 (by omega)
      exact wpo_nil ⟨k3090, x3023, k3025, k3032, k3039, (grown_trans hi3080 hg3094), e3081, e3082, e3083, e3084, e3085, fun h => not_open h, c_0, c_1, c_2, c_3, fun _ => ⟨rfl, hk3091, hk3092, fun _ => kR3093⟩, fun h => undone 5 hS hcl rfl h, fun h => undone 6 hS hcl rfl h, c_7, fun h => undone 8 hS hcl rfl h, fun h => undone 9 hS hcl rfl h, c_10, fun h => undone 11 hS hcl rfl h, fun h => undone 12 hS hcl rfl h, c_13, fun h => undone 14 hS hcl rfl h, fun h => undone 15 hS hcl rfl h⟩
     refine preL_cons (fun S F w3097 hS hbef hcl hI => ?_) ?_
     ·
      obtain ⟨k3015, x3023, k3025, k3032, k3039, hi3098, e3099, e3100, e3101, e3102, e3103, c_old_R2799, c_0, c_1, c_2, c_3, c_4, c_5, c_6, c_7, c_8, c_9, c_10, c_11, c_12, c_13, c_14, c_15⟩ := hI
      have hb3104 := low1 hb2902 hi3098 (by omega)
      obtain e3105 := c_0 (ready_of 0 hbef rfl)
      obtain e3106 := c_1 (ready_of 1 hbef rfl)
      obtain e3107 := c_2 (ready_of 2 hbef rfl)
      obtain e3108 := c_3 (ready_of 3 hbef rfl)
      obtain ⟨e3109, hk3016, hk3017, ks4_R2799⟩ := c_4 (ready_of 4 hbef rfl)
      refine wpo_indexAddr (o' := (k3015).toNat * 5) es_27 e3105 e3109 (by omega) (by omega) (by omega) rfl ?_
      exact wpo_nil ⟨k3015, x3023, k3025, k3032, k3039, hi3098, e3099, e3100, e3101, e3102, e3103, fun hn => not_open ((ready_of 4 hbef rfl).symm.trans hn), c_0, c_1, c_2, c_3, c_4, fun _ => rfl, fun h => undone 6 hS hcl rfl h, c_7, c_8, c_9, c_10, c_11, c_12, c_13, c_14, c_15⟩
     refine preL_cons (fun S F w3110 hS hbef hcl hI => ?_) ?_
     ·
      obtain ⟨k3015, x3023, k3025, k3032, k3039, hi3111, e3112, e3113, e3114, e3115, e3116, c_old_R2799, c_0, c_1, c_2, c_3, c_4, c_5, c_6, c_7, c_8, c_9, c_10, c_11, c_12, c_13, c_14, c_15⟩ := hI
      have hb3117 := low1 hb2902 hi3111 (by omega)
      obtain e3118 := c_0 (ready_of 0 hbef rfl)
      obtain e3119 := c_1 (ready_of 1 hbef rfl)
      obtain e3120 := c_2 (ready_of 2 hbef rfl)
      obtain e3121 := c_3 (ready_of 3 hbef rfl)
      obtain ⟨e3122, hk3016, hk3017, ks4_R2799⟩ := c_4 (ready_of 4 hbef rfl)
      obtain e3123 := c_5 (ready_of 5 hbef rfl)
      have k3124 := ((((k2880.grown0 hN2878.grw).grown hS2883.grw (some_ne (by omega))).grown hg2900 (some_ne (by omega))).grown hi3111 (some_ne (by omega)))
      obtain ⟨x3125, hx3126⟩ := get_lt (l := ys) (i := (k3015).toNat) (by omega)
      refine wpo_loadn (vs := [.int .i64 x3125.th, .int .i64 x3125.ve, .bool x3125.rd, .bool x3125.wr, .bool x3125.wk]) rt_29 e3123 rfl (range_sub (Own.range wide_rt k3124 hx3126) 0 5 rfl) rfl ?_
      exact wpo_nil ⟨k3015, x3125, k3025, k3032, k3039, hi3111, e3112, e3113, e3114, e3115, e3116, fun hn => not_open ((ready_of 4 hbef rfl).symm.trans hn), c_0, c_1, c_2, c_3, c_4, c_5, fun _ => ⟨rfl, hx3126⟩, c_7, c_8, c_9, c_10, c_11, c_12, c_13, c_14, c_15⟩
     refine preL_cons (fun S F w3127 hS hbef hcl hI => ?_) ?_
     ·
      obtain ⟨k3015, x3023, k3025, k3032, k3039, hi3128, e3129, e3130, e3131, e3132, e3133, c_old_R2799, c_0, c_1, c_2, c_3, c_4, c_5, c_6, c_7, c_8, c_9, c_10, c_11, c_12, c_13, c_14, c_15⟩ := hI
      have hb3134 := low1 hb2902 hi3128 (by omega)
      refine wpo_move (v := .pointer (some ⟨R2799, 0, none⟩)) e3131 rfl ?_
      exact wpo_nil ⟨k3015, x3023, k3025, k3032, k3039, hi3128, e3129, e3130, e3131, e3132, e3133, fun h => c_old_R2799 h, c_0, c_1, c_2, c_3, c_4, c_5, c_6, fun _ => rfl, fun h => undone 8 hS hcl rfl h, fun h => undone 9 hS hcl rfl h, c_10, fun h => undone 11 hS hcl rfl h, fun h => undone 12 hS hcl rfl h, c_13, fun h => undone 14 hS hcl rfl h, fun h => undone 15 hS hcl rfl h⟩
     refine preL_cons (fun S F w3135 hS hbef hcl hI => ?_) ?_
     ·
      obtain ⟨k3015, x3023, k3025, k3032, k3039, hi3136, e3137, e3138, e3139, e3140, e3141, c_old_R2799, c_0, c_1, c_2, c_3, c_4, c_5, c_6, c_7, c_8, c_9, c_10, c_11, c_12, c_13, c_14, c_15⟩ := hI
      have hb3142 := low1 hb2902 hi3136 (by omega)
      obtain e3143 := c_1 (ready_of 1 hbef rfl)
      obtain e3144 := c_2 (ready_of 2 hbef rfl)
      obtain e3145 := c_3 (ready_of 3 hbef rfl)
      obtain ⟨e3146, hk3016, hk3017, ks4_R2799⟩ := c_4 (ready_of 4 hbef rfl)
      obtain e3147 := c_7 (ready_of 7 hbef rfl)
      refine wpo_call (vs := [.pointer (some ⟨R2799, 0, none⟩), .int .i64 2]) gf_60 (args_cons e3147 (args_cons rfl args_nil)) rfl (pick_c (p2865 + 1 + 1) 2 (by omega) _ R2799 (bs.take 2000) _ _ _ (ks4_R2799 hS) (by omega) (SlLt.low0 (SlLt.take hs 2000) hb3142) (by first | exact hb | exact fun b h => hb b (List.mem_of_mem_take h)) (by first | omega | (rw [List.length_take]; omega))) ?_
      rintro _ w3153 ⟨k3148, rfl, hk3149, hk3150, kR3151, hg3152⟩
      have hb3154 := low1 hb3142 hg3152 (by omega)
      exact wpo_nil ⟨k3015, x3023, k3148, k3032, k3039, (grown_trans hi3136 hg3152), e3137, e3138, e3139, e3140, e3141, fun hn => not_open ((ready_of 4 hbef rfl).symm.trans hn), c_0, c_1, c_2, c_3, fun h => let ⟨y3155, y3156, y3157, y3158⟩ := c_4 h; ⟨y3155, y3156, y3157, fun h => not_open h⟩, c_5, c_6, c_7, fun _ => ⟨rfl, hk3149, hk3150, fun _ => kR3151⟩, fun h => undone 9 hS hcl rfl h, c_10, fun h => undone 11 hS hcl rfl h, fun h => undone 12 hS hcl rfl h, c_13, fun h => undone 14 hS hcl rfl h, fun h => undone 15 hS hcl rfl h⟩
     refine preL_cons (fun S F w3159 hS hbef hcl hI => ?_) ?_
     ·
      obtain ⟨k3015, x3023, k3025, k3032, k3039, hi3160, e3161, e3162, e3163, e3164, e3165, c_old_R2799, c_0, c_1, c_2, c_3, c_4, c_5, c_6, c_7, c_8, c_9, c_10, c_11, c_12, c_13, c_14, c_15⟩ := hI
      have hb3166 := low1 hb2902 hi3160 (by omega)
      obtain e3167 := c_1 (ready_of 1 hbef rfl)
      obtain e3168 := c_2 (ready_of 2 hbef rfl)
      obtain e3169 := c_3 (ready_of 3 hbef rfl)
      obtain ⟨e3170, hk3016, hk3017, ks4_R2799⟩ := c_4 (ready_of 4 hbef rfl)
      obtain e3171 := c_7 (ready_of 7 hbef rfl)
      obtain ⟨e3172, hk3026, hk3027, ks8_R2799⟩ := c_8 (ready_of 8 hbef rfl)
      refine wpo_eql (q := decide (k3025 = 0)) e3172 rfl rfl rfl ?_
      exact wpo_nil ⟨k3015, x3023, k3025, k3032, k3039, hi3160, e3161, e3162, e3163, e3164, e3165, fun hn => not_open ((ready_of 4 hbef rfl).symm.trans hn), c_0, c_1, c_2, c_3, c_4, c_5, c_6, c_7, c_8, fun _ => rfl, c_10, c_11, c_12, c_13, c_14, c_15⟩
     refine preL_cons (fun S F w3173 hS hbef hcl hI => ?_) ?_
     ·
      obtain ⟨k3015, x3023, k3025, k3032, k3039, hi3174, e3175, e3176, e3177, e3178, e3179, c_old_R2799, c_0, c_1, c_2, c_3, c_4, c_5, c_6, c_7, c_8, c_9, c_10, c_11, c_12, c_13, c_14, c_15⟩ := hI
      have hb3180 := low1 hb2902 hi3174 (by omega)
      refine wpo_move (v := .pointer (some ⟨R2799, 0, none⟩)) e3177 rfl ?_
      exact wpo_nil ⟨k3015, x3023, k3025, k3032, k3039, hi3174, e3175, e3176, e3177, e3178, e3179, fun h => c_old_R2799 h, c_0, c_1, c_2, c_3, c_4, c_5, c_6, c_7, c_8, c_9, fun _ => rfl, fun h => undone 11 hS hcl rfl h, fun h => undone 12 hS hcl rfl h, c_13, fun h => undone 14 hS hcl rfl h, fun h => undone 15 hS hcl rfl h⟩
     refine preL_cons (fun S F w3181 hS hbef hcl hI => ?_) ?_
     ·
      obtain ⟨k3015, x3023, k3025, k3032, k3039, hi3182, e3183, e3184, e3185, e3186, e3187, c_old_R2799, c_0, c_1, c_2, c_3, c_4, c_5, c_6, c_7, c_8, c_9, c_10, c_11, c_12, c_13, c_14, c_15⟩ := hI
      have hb3188 := low1 hb2902 hi3182 (by omega)
      obtain e3189 := c_1 (ready_of 1 hbef rfl)
      obtain e3190 := c_2 (ready_of 2 hbef rfl)
      obtain e3191 := c_3 (ready_of 3 hbef rfl)
      obtain ⟨e3192, hk3016, hk3017, ks4_R2799⟩ := c_4 (ready_of 4 hbef rfl)
      obtain e3193 := c_7 (ready_of 7 hbef rfl)
      obtain ⟨e3194, hk3026, hk3027, ks8_R2799⟩ := c_8 (ready_of 8 hbef rfl)
      obtain e3195 := c_10 (ready_of 10 hbef rfl)
      refine wpo_call (vs := [.pointer (some ⟨R2799, 0, none⟩), .int .i64 2]) gf_60 (args_cons e3195 (args_cons rfl args_nil)) rfl (pick_c (p2865 + 1 + 1 + 1) 2 (by omega) _ R2799 (bs.take 2000) _ _ _ (ks8_R2799 hS) (by omega) (SlLt.low0 (SlLt.take hs 2000) hb3188) (by first | exact hb | exact fun b h => hb b (List.mem_of_mem_take h)) (by first | omega | (rw [List.length_take]; omega))) ?_
      rintro _ w3201 ⟨k3196, rfl, hk3197, hk3198, kR3199, hg3200⟩
      have hb3202 := low1 hb3188 hg3200 (by omega)
      exact wpo_nil ⟨k3015, x3023, k3025, k3196, k3039, (grown_trans hi3182 hg3200), e3183, e3184, e3185, e3186, e3187, fun hn => not_open ((ready_of 4 hbef rfl).symm.trans hn), c_0, c_1, c_2, c_3, fun h => let ⟨y3203, y3204, y3205, y3206⟩ := c_4 h; ⟨y3203, y3204, y3205, fun hn => not_open ((ready_of 8 hbef rfl).symm.trans hn)⟩, c_5, c_6, c_7, fun h => let ⟨y3207, y3208, y3209, y3210⟩ := c_8 h; ⟨y3207, y3208, y3209, fun h => not_open h⟩, c_9, c_10, fun _ => ⟨rfl, hk3197, hk3198, fun _ => kR3199⟩, fun h => undone 12 hS hcl rfl h, c_13, fun h => undone 14 hS hcl rfl h, fun h => undone 15 hS hcl rfl h⟩
     refine preL_cons (fun S F w3211 hS hbef hcl hI => ?_) ?_
     ·
      obtain ⟨k3015, x3023, k3025, k3032, k3039, hi3212, e3213, e3214, e3215, e3216, e3217, c_old_R2799, c_0, c_1, c_2, c_3, c_4, c_5, c_6, c_7, c_8, c_9, c_10, c_11, c_12, c_13, c_14, c_15⟩ := hI
      have hb3218 := low1 hb2902 hi3212 (by omega)
      obtain e3219 := c_1 (ready_of 1 hbef rfl)
      obtain e3220 := c_2 (ready_of 2 hbef rfl)
      obtain e3221 := c_3 (ready_of 3 hbef rfl)
      obtain ⟨e3222, hk3016, hk3017, ks4_R2799⟩ := c_4 (ready_of 4 hbef rfl)
      obtain e3223 := c_7 (ready_of 7 hbef rfl)
      obtain ⟨e3224, hk3026, hk3027, ks8_R2799⟩ := c_8 (ready_of 8 hbef rfl)
      obtain e3225 := c_10 (ready_of 10 hbef rfl)
      obtain ⟨e3226, hk3033, hk3034, ks11_R2799⟩ := c_11 (ready_of 11 hbef rfl)
      refine wpo_eql (q := decide (k3032 = 0)) e3226 rfl rfl rfl ?_
      exact wpo_nil ⟨k3015, x3023, k3025, k3032, k3039, hi3212, e3213, e3214, e3215, e3216, e3217, fun hn => not_open ((ready_of 4 hbef rfl).symm.trans hn), c_0, c_1, c_2, c_3, c_4, c_5, c_6, c_7, c_8, c_9, c_10, c_11, fun _ => rfl, c_13, c_14, c_15⟩
     refine preL_cons (fun S F w3227 hS hbef hcl hI => ?_) ?_
     ·
      obtain ⟨k3015, x3023, k3025, k3032, k3039, hi3228, e3229, e3230, e3231, e3232, e3233, c_old_R2799, c_0, c_1, c_2, c_3, c_4, c_5, c_6, c_7, c_8, c_9, c_10, c_11, c_12, c_13, c_14, c_15⟩ := hI
      have hb3234 := low1 hb2902 hi3228 (by omega)
      refine wpo_move (v := .pointer (some ⟨R2799, 0, none⟩)) e3231 rfl ?_
      exact wpo_nil ⟨k3015, x3023, k3025, k3032, k3039, hi3228, e3229, e3230, e3231, e3232, e3233, fun h => c_old_R2799 h, c_0, c_1, c_2, c_3, c_4, c_5, c_6, c_7, c_8, c_9, c_10, c_11, c_12, fun _ => rfl, fun h => undone 14 hS hcl rfl h, fun h => undone 15 hS hcl rfl h⟩
     refine preL_cons (fun S F w3235 hS hbef hcl hI => ?_) ?_
     ·
      obtain ⟨k3015, x3023, k3025, k3032, k3039, hi3236, e3237, e3238, e3239, e3240, e3241, c_old_R2799, c_0, c_1, c_2, c_3, c_4, c_5, c_6, c_7, c_8, c_9, c_10, c_11, c_12, c_13, c_14, c_15⟩ := hI
      have hb3242 := low1 hb2902 hi3236 (by omega)
      obtain e3243 := c_1 (ready_of 1 hbef rfl)
      obtain e3244 := c_2 (ready_of 2 hbef rfl)
      obtain e3245 := c_3 (ready_of 3 hbef rfl)
      obtain ⟨e3246, hk3016, hk3017, ks4_R2799⟩ := c_4 (ready_of 4 hbef rfl)
      obtain e3247 := c_7 (ready_of 7 hbef rfl)
      obtain ⟨e3248, hk3026, hk3027, ks8_R2799⟩ := c_8 (ready_of 8 hbef rfl)
      obtain e3249 := c_10 (ready_of 10 hbef rfl)
      obtain ⟨e3250, hk3033, hk3034, ks11_R2799⟩ := c_11 (ready_of 11 hbef rfl)
      obtain e3251 := c_13 (ready_of 13 hbef rfl)
      refine wpo_call (vs := [.pointer (some ⟨R2799, 0, none⟩), .int .i64 2]) gf_60 (args_cons e3251 (args_cons rfl args_nil)) rfl (pick_c (p2865 + 1 + 1 + 1 + 1) 2 (by omega) _ R2799 (bs.take 2000) _ _ _ (ks11_R2799 hS) (by omega) (SlLt.low0 (SlLt.take hs 2000) hb3242) (by first | exact hb | exact fun b h => hb b (List.mem_of_mem_take h)) (by first | omega | (rw [List.length_take]; omega))) ?_
      rintro _ w3257 ⟨k3252, rfl, hk3253, hk3254, kR3255, hg3256⟩
      have hb3258 := low1 hb3242 hg3256 (by omega)
      exact wpo_nil ⟨k3015, x3023, k3025, k3032, k3252, (grown_trans hi3236 hg3256), e3237, e3238, e3239, e3240, e3241, fun hn => not_open ((ready_of 4 hbef rfl).symm.trans hn), c_0, c_1, c_2, c_3, fun h => let ⟨y3259, y3260, y3261, y3262⟩ := c_4 h; ⟨y3259, y3260, y3261, fun hn => not_open ((ready_of 8 hbef rfl).symm.trans hn)⟩, c_5, c_6, c_7, fun h => let ⟨y3263, y3264, y3265, y3266⟩ := c_8 h; ⟨y3263, y3264, y3265, fun hn => not_open ((ready_of 11 hbef rfl).symm.trans hn)⟩, c_9, c_10, fun h => let ⟨y3267, y3268, y3269, y3270⟩ := c_11 h; ⟨y3267, y3268, y3269, fun h => not_open h⟩, c_12, c_13, fun _ => ⟨rfl, hk3253, hk3254, kR3255⟩, fun h => undone 15 hS hcl rfl h⟩
     refine preL_cons (fun S F w3271 hS hbef hcl hI => ?_) ?_
     ·
      obtain ⟨k3015, x3023, k3025, k3032, k3039, hi3272, e3273, e3274, e3275, e3276, e3277, c_old_R2799, c_0, c_1, c_2, c_3, c_4, c_5, c_6, c_7, c_8, c_9, c_10, c_11, c_12, c_13, c_14, c_15⟩ := hI
      have hb3278 := low1 hb2902 hi3272 (by omega)
      obtain e3279 := c_1 (ready_of 1 hbef rfl)
      obtain e3280 := c_2 (ready_of 2 hbef rfl)
      obtain e3281 := c_3 (ready_of 3 hbef rfl)
      obtain ⟨e3282, hk3016, hk3017, ks4_R2799⟩ := c_4 (ready_of 4 hbef rfl)
      obtain e3283 := c_7 (ready_of 7 hbef rfl)
      obtain ⟨e3284, hk3026, hk3027, ks8_R2799⟩ := c_8 (ready_of 8 hbef rfl)
      obtain e3285 := c_10 (ready_of 10 hbef rfl)
      obtain ⟨e3286, hk3033, hk3034, ks11_R2799⟩ := c_11 (ready_of 11 hbef rfl)
      obtain e3287 := c_13 (ready_of 13 hbef rfl)
      obtain ⟨e3288, hk3040, hk3041, ks14_R2799⟩ := c_14 (ready_of 14 hbef rfl)
      refine wpo_eql (q := decide (k3039 = 0)) e3288 rfl rfl rfl ?_
      exact wpo_nil ⟨k3015, x3023, k3025, k3032, k3039, hi3272, e3273, e3274, e3275, e3276, e3277, fun hn => not_open ((ready_of 4 hbef rfl).symm.trans hn), c_0, c_1, c_2, c_3, c_4, c_5, c_6, c_7, c_8, c_9, c_10, c_11, c_12, c_13, c_14, fun _ => rfl⟩
     exact preL_nil
    ·
     intro S F w3289 hall hI
     obtain ⟨k3015, x3023, k3025, k3032, k3039, hi3290, e3291, e3292, e3293, e3294, e3295, c_old_R2799, c_0, c_1, c_2, c_3, c_4, c_5, c_6, c_7, c_8, c_9, c_10, c_11, c_12, c_13, c_14, c_15⟩ := hI
     have hb3296 := low1 hb2902 hi3290 (by omega)
     obtain e3297 := c_0 (hall 0 (by decide))
     obtain e3298 := c_1 (hall 1 (by decide))
     obtain e3299 := c_2 (hall 2 (by decide))
     obtain e3300 := c_3 (hall 3 (by decide))
     obtain ⟨e3301, hk3016, hk3017, ks4_R2799⟩ := c_4 (hall 4 (by decide))
     obtain e3302 := c_5 (hall 5 (by decide))
     obtain ⟨e3303, hx3024⟩ := c_6 (hall 6 (by decide))
     obtain e3304 := c_7 (hall 7 (by decide))
     obtain ⟨e3305, hk3026, hk3027, ks8_R2799⟩ := c_8 (hall 8 (by decide))
     obtain e3306 := c_9 (hall 9 (by decide))
     obtain e3307 := c_10 (hall 10 (by decide))
     obtain ⟨e3308, hk3033, hk3034, ks11_R2799⟩ := c_11 (hall 11 (by decide))
     obtain e3309 := c_12 (hall 12 (by decide))
     obtain e3310 := c_13 (hall 13 (by decide))
     obtain ⟨e3311, hk3040, hk3041, ks14_R2799⟩ := c_14 (hall 14 (by decide))
     obtain e3312 := c_15 (hall 15 (by decide))
     refine wpo_call (vs := [.agg #[.int .i64 x3023.th, .int .i64 x3023.ve, .bool x3023.rd, .bool x3023.wr, .bool x3023.wk], .bool (decide (k3025 = 0)), .bool (decide (k3032 = 0)), .bool (decide (k3039 = 0))]) gf_62 (args_cons e3303 (args_cons e3306 (args_cons e3309 (args_cons e3312 args_nil)))) rfl (sRightLess_c x3023 (decide (k3025 = 0)) (decide (k3032 = 0)) (decide (k3039 = 0)) _) ?_
     rintro _ w3313 ⟨rfl, hg3314⟩
     have hb3315 := low0 hb3296 hg3314
     have k3316 := (((hS2883.blk.grown hg2900 (some_ne (by omega))).grown hi3290 (some_ne (by omega))).grown0 hg3314)
     refine wpo_storen (vs := [.int .i64 ((rightLess x3023 (decide (k3025 = 0)) (decide (k3032 = 0)) (decide (k3039 = 0))).th), .int .i64 ((rightLess x3023 (decide (k3025 = 0)) (decide (k3032 = 0)) (decide (k3039 = 0))).ve), .bool ((rightLess x3023 (decide (k3025 = 0)) (decide (k3032 = 0)) (decide (k3039 = 0))).rd), .bool ((rightLess x3023 (decide (k3025 = 0)) (decide (k3032 = 0)) (decide (k3039 = 0))).wr), .bool ((rightLess x3023 (decide (k3025 = 0)) (decide (k3032 = 0)) (decide (k3039 = 0))).wk)]) (cs' := #[.int .i64 ((rightLess x3023 (decide (k3025 = 0)) (decide (k3032 = 0)) (decide (k3039 = 0))).th), .int .i64 ((rightLess x3023 (decide (k3025 = 0)) (decide (k3032 = 0)) (decide (k3039 = 0))).ve), .bool ((rightLess x3023 (decide (k3025 = 0)) (decide (k3032 = 0)) (decide (k3039 = 0))).rd), .bool ((rightLess x3023 (decide (k3025 = 0)) (decide (k3032 = 0)) (decide (k3039 = 0))).wr), .bool ((rightLess x3023 (decide (k3025 = 0)) (decide (k3032 = 0)) (decide (k3039 = 0))).wk)]) rt_29 e3295 rfl rfl (by simp [Value.oneCell']) k3316 (Nat.le_of_ble_eq_true rfl) rfl ?_
     intro w3317 hS3318
     have hb3319 := low1 hb3315 hS3318.grw (by omega)
     refine wpo_nil ?_
     refine thn_n ?_
     refine wpf_seq ?_
     refine wpf_draw (m := 3) (vals := [(49, .slice (some ⟨Bq, 0, none⟩) ys.length cq), (50, .agg #[.int .i64 ((rightLess x3023 (decide (k3025 = 0)) (decide (k3032 = 0)) (decide (k3039 = 0))).th), .int .i64 ((rightLess x3023 (decide (k3025 = 0)) (decide (k3032 = 0)) (decide (k3039 = 0))).ve), .bool ((rightLess x3023 (decide (k3025 = 0)) (decide (k3032 = 0)) (decide (k3039 = 0))).rd), .bool ((rightLess x3023 (decide (k3025 = 0)) (decide (k3032 = 0)) (decide (k3039 = 0))).wr), .bool ((rightLess x3023 (decide (k3025 = 0)) (decide (k3032 = 0)) (decide (k3039 = 0))).wk)]), (2, .slice (some ⟨Bq, 0, none⟩) ys.length cq)]) (fun w' => w3317.grownBy w' none) mixed_ (by kernel_rfl) (grown_drew _) ?_ ?_
     ·
      refine yll_cons rfl (fun w3328 hi3329 => ?_) ?_
      ·
       have hb3330 := low0 hb3319 hi3329
       refine wpo_move (v := .slice (some ⟨Bq, 0, none⟩) ys.length cq) e3294 rfl ?_
       exact wpo_nil ⟨rfl, hi3329⟩
      refine yll_cons rfl (fun w3331 hi3332 => ?_) ?_
      ·
       have hb3333 := low0 hb3319 hi3332
       have k3334 := (hS3318.blk.grown0 hi3332)
       refine wpo_loadn (vs := [.int .i64 ((rightLess x3023 (decide (k3025 = 0)) (decide (k3032 = 0)) (decide (k3039 = 0))).th), .int .i64 ((rightLess x3023 (decide (k3025 = 0)) (decide (k3032 = 0)) (decide (k3039 = 0))).ve), .bool ((rightLess x3023 (decide (k3025 = 0)) (decide (k3032 = 0)) (decide (k3039 = 0))).rd), .bool ((rightLess x3023 (decide (k3025 = 0)) (decide (k3032 = 0)) (decide (k3039 = 0))).wr), .bool ((rightLess x3023 (decide (k3025 = 0)) (decide (k3032 = 0)) (decide (k3039 = 0))).wk)]) rt_29 e3295 rfl (k3334.rangeL 0 5 rfl) rfl ?_
       exact wpo_nil ⟨rfl, hi3332⟩
      refine yll_cons rfl (fun w3335 hi3336 => ?_) ?_
      ·
       have hb3337 := low0 hb3319 hi3336
       refine wpo_assign (v := .slice (some ⟨Bq, 0, none⟩) ys.length cq) rfl rfl ?_
       exact wpo_nil ⟨rfl, hi3336⟩
      exact yll_nil
     ·
      intro w3338 hi3339
      have hb3340 := low0 hb3319 hi3339
      have k3341 := (((((((k2879.grown0 hN2878.grw).grown hS2883.grw (some_ne (by omega))).grown hg2900 (some_ne (by omega))).grown hi3290 (some_ne (by omega))).grown0 hg3314).grown hS3318.grw (some_ne (by omega))).grown0 hi3339)
      refine wpo_storen (vs := [.int .i64 ((rightLess x3023 (decide (k3025 = 0)) (decide (k3032 = 0)) (decide (k3039 = 0))).th), .int .i64 ((rightLess x3023 (decide (k3025 = 0)) (decide (k3032 = 0)) (decide (k3039 = 0))).ve), .bool ((rightLess x3023 (decide (k3025 = 0)) (decide (k3032 = 0)) (decide (k3039 = 0))).rd), .bool ((rightLess x3023 (decide (k3025 = 0)) (decide (k3032 = 0)) (decide (k3039 = 0))).wr), .bool ((rightLess x3023 (decide (k3025 = 0)) (decide (k3032 = 0)) (decide (k3039 = 0))).wk)]) (cs' := #[.int .i64 ((rightLess x3023 (decide (k3025 = 0)) (decide (k3032 = 0)) (decide (k3039 = 0))).th), .int .i64 ((rightLess x3023 (decide (k3025 = 0)) (decide (k3032 = 0)) (decide (k3039 = 0))).ve), .bool ((rightLess x3023 (decide (k3025 = 0)) (decide (k3032 = 0)) (decide (k3039 = 0))).rd), .bool ((rightLess x3023 (decide (k3025 = 0)) (decide (k3032 = 0)) (decide (k3039 = 0))).wr), .bool ((rightLess x3023 (decide (k3025 = 0)) (decide (k3032 = 0)) (decide (k3039 = 0))).wk)]) rt_29 e3292 rfl rfl (by simp [Value.oneCell']) k3341 (Nat.le_of_ble_eq_true rfl) rfl ?_
      intro w3342 hS3343
      have hb3344 := low1 hb3340 hS3343.grw (by omega)
      refine wpo_nil ?_
      refine thn_n ?_
      refine wpf_ret ?_
      have k3345 := ((((((((k2880.grown0 hN2878.grw).grown hS2883.grw (some_ne (by omega))).grown hg2900 (some_ne (by omega))).grown hi3290 (some_ne (by omega))).grown0 hg3314).grown hS3318.grw (some_ne (by omega))).grown0 hi3339).grown hS3343.grw (some_ne (by omega)))
      refine ⟨.tuple #[.slice (some ⟨Bq, 0, none⟩) ys.length cq, .agg #[.int .i64 ((rightLess x3023 (decide (k3025 = 0)) (decide (k3032 = 0)) (decide (k3039 = 0))).th), .int .i64 ((rightLess x3023 (decide (k3025 = 0)) (decide (k3032 = 0)) (decide (k3039 = 0))).ve), .bool ((rightLess x3023 (decide (k3025 = 0)) (decide (k3032 = 0)) (decide (k3039 = 0))).rd), .bool ((rightLess x3023 (decide (k3025 = 0)) (decide (k3032 = 0)) (decide (k3039 = 0))).wr), .bool ((rightLess x3023 (decide (k3025 = 0)) (decide (k3032 = 0)) (decide (k3039 = 0))).wk)]], resTC rfl rfl (resCell_mk (vs := [.int .i64 ((rightLess x3023 (decide (k3025 = 0)) (decide (k3032 = 0)) (decide (k3039 = 0))).th), .int .i64 ((rightLess x3023 (decide (k3025 = 0)) (decide (k3032 = 0)) (decide (k3039 = 0))).ve), .bool ((rightLess x3023 (decide (k3025 = 0)) (decide (k3032 = 0)) (decide (k3039 = 0))).rd), .bool ((rightLess x3023 (decide (k3025 = 0)) (decide (k3032 = 0)) (decide (k3039 = 0))).wr), .bool ((rightLess x3023 (decide (k3025 = 0)) (decide (k3032 = 0)) (decide (k3039 = 0))).wk)]) rt_29 e3292 rfl (hS3343.blk.rangeL 0 5 rfl)), Bq, cq, ys, (rightLess x3023 (decide (k3025 = 0)) (decide (k3032 = 0)) (decide (k3039 = 0))), rfl, k3345, by omega, hb3344⟩
   ·
    have h3346 := of_decide_eq_false h2903
    refine wpf_skip ?_
    refine thn_n ?_
    refine wpf_seq ?_
    refine wpf_draw (m := 3) (vals := [(49, .slice (some ⟨Bq, 0, none⟩) ys.length cq), (50, .agg #[.int .i64 r2864.th, .int .i64 r2864.ve, .bool r2864.rd, .bool r2864.wr, .bool r2864.wk]), (2, .slice (some ⟨Bq, 0, none⟩) ys.length cq)]) (fun w' => w2901.grownBy w' none) mixed_ (by kernel_rfl) (grown_drew _) ?_ ?_
    ·
     refine yll_cons rfl (fun w3359 hi3360 => ?_) ?_
     ·
      have hb3361 := low0 hb2902 hi3360
      refine wpo_move (v := .slice (some ⟨Bq, 0, none⟩) ys.length cq) e2824 rfl ?_
      exact wpo_nil ⟨rfl, hi3360⟩
     refine yll_cons rfl (fun w3362 hi3363 => ?_) ?_
     ·
      have hb3364 := low0 hb2902 hi3363
      have k3365 := ((hS2883.blk.grown hg2900 (some_ne (by omega))).grown0 hi3363)
      refine wpo_loadn (vs := [.int .i64 r2864.th, .int .i64 r2864.ve, .bool r2864.rd, .bool r2864.wr, .bool r2864.wk]) rt_29 rfl rfl (k3365.rangeL 0 5 rfl) rfl ?_
      exact wpo_nil ⟨rfl, hi3363⟩
     refine yll_cons rfl (fun w3366 hi3367 => ?_) ?_
     ·
      have hb3368 := low0 hb2902 hi3367
      refine wpo_assign (v := .slice (some ⟨Bq, 0, none⟩) ys.length cq) rfl rfl ?_
      exact wpo_nil ⟨rfl, hi3367⟩
     exact yll_nil
    ·
     intro w3369 hi3370
     have hb3371 := low0 hb2902 hi3370
     have k3372 := ((((k2879.grown0 hN2878.grw).grown hS2883.grw (some_ne (by omega))).grown hg2900 (some_ne (by omega))).grown0 hi3370)
     refine wpo_storen (vs := [.int .i64 r2864.th, .int .i64 r2864.ve, .bool r2864.rd, .bool r2864.wr, .bool r2864.wk]) (cs' := #[.int .i64 r2864.th, .int .i64 r2864.ve, .bool r2864.rd, .bool r2864.wr, .bool r2864.wk]) rt_29 e2827 rfl rfl (by simp [Value.oneCell']) k3372 (Nat.le_of_ble_eq_true rfl) rfl ?_
     intro w3373 hS3374
     have hb3375 := low1 hb3371 hS3374.grw (by omega)
     refine wpo_nil ?_
     refine thn_n ?_
     refine wpf_ret ?_
     have k3376 := (((((k2880.grown0 hN2878.grw).grown hS2883.grw (some_ne (by omega))).grown hg2900 (some_ne (by omega))).grown0 hi3370).grown hS3374.grw (some_ne (by omega)))
     refine ⟨.tuple #[.slice (some ⟨Bq, 0, none⟩) ys.length cq, .agg #[.int .i64 r2864.th, .int .i64 r2864.ve, .bool r2864.rd, .bool r2864.wr, .bool r2864.wk]], resTC rfl rfl (resCell_mk (vs := [.int .i64 r2864.th, .int .i64 r2864.ve, .bool r2864.rd, .bool r2864.wr, .bool r2864.wk]) rt_29 e2827 rfl (hS3374.blk.rangeL 0 5 rfl)), Bq, cq, ys, r2864, rfl, k3376, by omega, hb3375⟩
  ·
   have h3377 := of_decide_eq_false h2893
   iterate 3 refine wpo_pass rfl rfl rfl h2893 rfl ?_
   refine wpo_pickf (v := .bool false) rfl h2893 rfl rfl ?_
   refine wpo_nil ?_
   refine wpf_condf rfl rfl ?_
   refine wpf_skip ?_
   refine thn_n ?_
   refine wpf_seq ?_
   refine wpf_draw (m := 3) (vals := [(49, .slice (some ⟨Bq, 0, none⟩) ys.length cq), (50, .agg #[.int .i64 r2864.th, .int .i64 r2864.ve, .bool r2864.rd, .bool r2864.wr, .bool r2864.wk]), (2, .slice (some ⟨Bq, 0, none⟩) ys.length cq)]) (fun w' => w2882.grownBy w' none) mixed_ (by kernel_rfl) (grown_drew _) ?_ ?_
   ·
    refine yll_cons rfl (fun w3386 hi3387 => ?_) ?_
    ·
     have hb3388 := low0 hb2884 hi3387
     refine wpo_move (v := .slice (some ⟨Bq, 0, none⟩) ys.length cq) e2824 rfl ?_
     exact wpo_nil ⟨rfl, hi3387⟩
    refine yll_cons rfl (fun w3389 hi3390 => ?_) ?_
    ·
     have hb3391 := low0 hb2884 hi3390
     have k3392 := (hS2883.blk.grown0 hi3390)
     refine wpo_loadn (vs := [.int .i64 r2864.th, .int .i64 r2864.ve, .bool r2864.rd, .bool r2864.wr, .bool r2864.wk]) rt_29 rfl rfl (k3392.rangeL 0 5 rfl) rfl ?_
     exact wpo_nil ⟨rfl, hi3390⟩
    refine yll_cons rfl (fun w3393 hi3394 => ?_) ?_
    ·
     have hb3395 := low0 hb2884 hi3394
     refine wpo_assign (v := .slice (some ⟨Bq, 0, none⟩) ys.length cq) rfl rfl ?_
     exact wpo_nil ⟨rfl, hi3394⟩
    exact yll_nil
   ·
    intro w3396 hi3397
    have hb3398 := low0 hb2884 hi3397
    have k3399 := (((k2879.grown0 hN2878.grw).grown hS2883.grw (some_ne (by omega))).grown0 hi3397)
    refine wpo_storen (vs := [.int .i64 r2864.th, .int .i64 r2864.ve, .bool r2864.rd, .bool r2864.wr, .bool r2864.wk]) (cs' := #[.int .i64 r2864.th, .int .i64 r2864.ve, .bool r2864.rd, .bool r2864.wr, .bool r2864.wk]) rt_29 e2827 rfl rfl (by simp [Value.oneCell']) k3399 (Nat.le_of_ble_eq_true rfl) rfl ?_
    intro w3400 hS3401
    have hb3402 := low1 hb3398 hS3401.grw (by omega)
    refine wpo_nil ?_
    refine thn_n ?_
    refine wpf_ret ?_
    have k3403 := ((((k2880.grown0 hN2878.grw).grown hS2883.grw (some_ne (by omega))).grown0 hi3397).grown hS3401.grw (some_ne (by omega)))
    refine ⟨.tuple #[.slice (some ⟨Bq, 0, none⟩) ys.length cq, .agg #[.int .i64 r2864.th, .int .i64 r2864.ve, .bool r2864.rd, .bool r2864.wr, .bool r2864.wk]], resTC rfl rfl (resCell_mk (vs := [.int .i64 r2864.th, .int .i64 r2864.ve, .bool r2864.rd, .bool r2864.wr, .bool r2864.wk]) rt_29 e2827 rfl (hS3401.blk.rangeL 0 5 rfl)), Bq, cq, ys, r2864, rfl, k3403, by omega, hb3402⟩

theorem law_FnReachIn (bs : List Int) (a : Option Addr) (c : Nat) (w : World) (hs0 : SlAt w a 1 (bs.map bcell)) (hb : ∀ b ∈ bs, 0 ≤ b ∧ b ≤ 255) (hn : bs.length ≤ 9223372036854775807) (hc : bs.length ≤ c) : CallsR Try.prog 4 #[.slice a bs.length c] w (fun v w' => v = .bool true ∧ w.grownBy w' none) := by
 refine calls_of_wpf (n := 57) Try.func4 rfl Try.ntmps4 rfl ?_
 have hb0 := World.grownBy.refl w none
 have hs := SlAt.lt wide_b (by omega) hs0
 refine wpf_seq_region ?_
 refine wpo_assign (v := .bool false) rfl rfl ?_
 refine wpo_nil ?_
 refine wpf_seq ?_
 refine wpf_seq_region ?_
 refine wpo_move (v := .slice a bs.length c) rfl rfl ?_
 refine wpo_len (by kernel_rfl) rfl rfl ?_
 refine wpo_gtr (q := decide (1048576 < (bs.length : Int))) rfl rfl rfl rfl ?_
 refine wpo_nil ?_
 refine wpf_cond rfl (fun h3404 => ?_) (fun h3404 => ?_)
 ·
  have h3405 := of_decide_eq_true h3404
  refine wpf_seq_region ?_
  refine wpo_assign (v := .bool true) rfl rfl ?_
  refine wpo_nil ?_
  refine wpf_ret ?_
  refine thn_r ?_
  refine ⟨.bool true, res1 rfl rfl, ?_, hb0⟩
  rfl
 ·
  have h3406 := of_decide_eq_false h3404
  refine wpf_skip ?_
  refine thn_n ?_
  refine wpf_seq_region ?_
  refine wpo_move (v := .slice a bs.length c) rfl rfl ?_
  refine wpo_call (vs := [.slice a bs.length c]) gf_19 (args_cons rfl args_nil) rfl (DrawReachIn_c bs a c _ (SlAt.low hs0 hb0) hb (by omega) (by omega)) ?_
  rintro _ w3414 ⟨B3407, cap3408, xs3409, r3410, rfl, hO3411, hl3412, hg3413⟩
  have hb3415 := low0 hb0 hg3413
  refine wpo_move (v := .tuple #[.slice (some ⟨B3407, 0, none⟩) xs3409.length cap3408, .agg #[.int .i64 r3410.th, .int .i64 r3410.ve, .bool r3410.rd, .bool r3410.wr, .bool r3410.wk]]) rfl rfl ?_
  refine wpo_extract (v := .slice (some ⟨B3407, 0, none⟩) xs3409.length cap3408) rfl rfl rfl ?_
  refine wpo_extract (v := .agg #[.int .i64 r3410.th, .int .i64 r3410.ve, .bool r3410.rd, .bool r3410.wr, .bool r3410.wk]) rfl rfl rfl ?_
  refine wpo_alloc (cs := #[.int .i64 0, .int .i64 0, .bool false, .bool false, .bool false]) zt_29 rfl rfl ?_
  intro B3416 w3417 hN3418
  have hlB3416 := hN_ge hN3418 hb3415
  have lt_B3407_B3416 := hN_gtl hN3418 (hO3411).lt
  have hb3419 := low0 hb3415 hN3418.grw
  refine wpo_assign (v := .slice (some ⟨B3407, 0, none⟩) xs3409.length cap3408) rfl rfl ?_
  refine wpo_storen (vs := [.int .i64 r3410.th, .int .i64 r3410.ve, .bool r3410.rd, .bool r3410.wr, .bool r3410.wk]) (cs' := #[.int .i64 r3410.th, .int .i64 r3410.ve, .bool r3410.rd, .bool r3410.wr, .bool r3410.wk]) rt_29 rfl rfl rfl (by simp [Value.oneCell']) hN3418.blk (Nat.le_of_ble_eq_true rfl) rfl ?_
  intro w3420 hS3421
  have hb3422 := low1 hb3419 hS3421.grw (by omega)
  refine wpo_nil ?_
  refine wpf_seq_region ?_
  refine wpo_move (v := .slice (some ⟨B3407, 0, none⟩) xs3409.length cap3408) rfl rfl ?_
  refine wpo_loadn (vs := [.int .i64 r3410.th, .int .i64 r3410.ve, .bool r3410.rd, .bool r3410.wr, .bool r3410.wk]) rt_29 rfl rfl (hS3421.blk.rangeL 0 5 rfl) rfl ?_
  have k3423 := ((hO3411.grown0 hN3418.grw).grown hS3421.grw (some_ne (by omega)))
  refine wpo_call (vs := [.slice (some ⟨B3407, 0, none⟩) xs3409.length cap3408, .agg #[.int .i64 r3410.th, .int .i64 r3410.ve, .bool r3410.rd, .bool r3410.wr, .bool r3410.wk]]) gf_17 (args_cons rfl (args_cons rfl args_nil)) rfl (ReachIn_c r3410 _ xs3409 _ _ (Own.sl wide_rt k3423) (by omega)) ?_
  rintro _ w3424 ⟨rfl, hg3425⟩
  have hb3426 := low0 hb3422 hg3425
  refine wpo_assign (v := .bool (reachIn xs3409 r3410)) rfl rfl ?_
  refine wpo_nil ?_
  refine wpf_seq ?_
  refine wpf_seq_region ?_
  refine wpo_move (v := .bool (reachIn xs3409 r3410)) rfl rfl ?_
  refine wpo_move (v := .slice (some ⟨B3407, 0, none⟩) xs3409.length cap3408) rfl rfl ?_
  have k3427 := (hS3421.blk.grown0 hg3425)
  refine wpo_loadn (vs := [.int .i64 r3410.th, .int .i64 r3410.ve, .bool r3410.rd, .bool r3410.wr, .bool r3410.wk]) rt_29 rfl rfl (k3427.rangeL 0 5 rfl) rfl ?_
  have k3428 := (k3423.grown0 hg3425)
  refine wpo_call (vs := [.slice (some ⟨B3407, 0, none⟩) xs3409.length cap3408, .agg #[.int .i64 r3410.th, .int .i64 r3410.ve, .bool r3410.rd, .bool r3410.wr, .bool r3410.wk]]) gf_14 (args_cons rfl (args_cons rfl args_nil)) rfl (sReachIn_c r3410 _ xs3409 _ _ (Own.sl wide_rt k3428) (by omega)) ?_
  rintro _ w3429 ⟨rfl, hg3430⟩
  have hb3431 := low0 hb3426 hg3430
  refine wpo_neqb (q := false) (by kernel_rfl) rfl rfl (by simp) rfl ?_
  refine wpo_nil ?_
  refine wpf_condf rfl rfl ?_
  refine wpf_skip ?_
  refine thn_n ?_
  refine wpf_seq_region ?_
  refine wpo_fieldAddr (o' := 0) fo_29_0 rfl rfl rfl ?_
  have k3432 := (k3427.grown0 hg3430)
  refine wpo_load1 (v := .int .i64 r3410.th) ot_3 rfl (k3432.cell rfl) rfl ?_
  refine wpo_eql (q := decide (r3410.th = 0)) rfl rfl rfl rfl ?_
  refine wpo_assign (v := .bool (decide (r3410.th = 0))) rfl rfl ?_
  refine wpo_nil ?_
  refine wpf_seq ?_
  refine wpf_seq_region ?_
  refine wpo_assign (v := .int .i64 0) rfl rfl ?_
  refine wpo_nil ?_
  refine wpf_block ?_
  have k3433 := (k3428.grown0 hg3430)
  refine wpf_loopN (fun mm f' w' => ∃ (k : Nat) (can : Bool), mm = xs3409.length - k ∧ k ≤ xs3409.length ∧ ((xs3409.take k).all rightOk) = true ∧ can = (decide (r3410.th = 0) || (xs3409.take k).any (rightIn r3410)) ∧ f' 6 = .bool can ∧ f' 7 = .int .i64 (k : Int) ∧ f' 3 = .slice (some ⟨B3407, 0, none⟩) xs3409.length cap3408 ∧ f' 4 = .pointer (some ⟨B3416, 0, none⟩) ∧ f' 5 = .bool (reachIn xs3409 r3410) ∧ w.grownBy w' none ∧ Dw.Own w' B3407 29 5 cap3408 xs3409.length (xs3409.flatMap Rt.cells) ∧ Blk w' B3416 29 #[.int .i64 r3410.th, .int .i64 r3410.ve, .bool r3410.rd, .bool r3410.wr, .bool r3410.wk]) (xs3409.length - 0) ⟨0, (decide (r3410.th = 0)), rfl, (Nat.zero_le _), rfl, (by simp), rfl, rfl, rfl, rfl, rfl, hb3431, k3433, k3432⟩ ?_
  rintro mm f3434 w3435 ⟨k, can, hm3437, hk, ha, hcan, e3438, e3439, e3440, e3441, e3442, hb3436, k3443, k3444⟩
  refine wpf_seq ?_
  refine wpf_seq_region ?_
  refine wpo_move (v := .int .i64 (k : Int)) e3439 rfl ?_
  refine wpo_move (v := .slice (some ⟨B3407, 0, none⟩) xs3409.length cap3408) e3440 rfl ?_
  refine wpo_len (by kernel_rfl) rfl rfl ?_
  refine wpo_lss (q := decide ((k : Int) < (xs3409.length : Int))) rfl rfl rfl rfl ?_
  refine wpo_nil ?_
  refine wpf_cond rfl (fun h3445 => ?_) (fun h3445 => ?_)
  ·
   have h3446 := of_decide_eq_true h3445
   refine wpf_skip ?_
   refine thn_n ?_
   refine wpf_seq ?_
   refine wpf_block ?_
   refine wpf_seq ?_
   refine wpf_seq_region ?_
   refine wpo_move (v := .slice (some ⟨B3407, 0, none⟩) xs3409.length cap3408) e3440 rfl ?_
   refine wpo_move (v := .int .i64 (k : Int)) e3439 rfl ?_
   refine wpo_indexAddr (o' := k * 5) es_27 rfl rfl (by omega) (by omega) (by omega) rfl ?_
   obtain ⟨x3447, hx3448⟩ := get_lt (l := xs3409) (i := k) (by omega)
   refine wpo_loadn (vs := [.int .i64 x3447.th, .int .i64 x3447.ve, .bool x3447.rd, .bool x3447.wr, .bool x3447.wk]) rt_29 rfl rfl (range_sub (Own.range wide_rt k3443 hx3448) 0 5 rfl) rfl ?_
   refine wpo_call (vs := [.agg #[.int .i64 x3447.th, .int .i64 x3447.ve, .bool x3447.rd, .bool x3447.wr, .bool x3447.wk]]) gf_20 (args_cons rfl args_nil) rfl (RightOk_c x3447 _) ?_
   rintro _ w3449 ⟨rfl, hg3450⟩
   have hb3451 := low0 hb3436 hg3450
   refine wpo_not (b' := !rightOk x3447) rfl rfl rfl ?_
   refine wpo_nil ?_
   refine wpf_cond rfl (fun h3452 => ?_) (fun h3452 => ?_)
   ·
    have h3453 := nt_t h3452
    refine wpf_seq_region ?_
    refine wpo_move (v := .bool (reachIn xs3409 r3410)) e3442 rfl ?_
    refine wpo_not (b' := !reachIn xs3409 r3410) rfl rfl rfl ?_
    refine wpo_assign (v := .bool (!reachIn xs3409 r3410)) rfl rfl ?_
    refine wpo_nil ?_
    refine wpf_ret ?_
    refine thn_r ?_
    refine blk_r ?_
    refine thn_r ?_
    refine thn_r ?_
    refine blk_r ?_
    refine thn_r ?_
    refine ⟨.bool (!reachIn xs3409 r3410), res1 rfl rfl, ?_, hb3451⟩
    rw [reach_bad hx3448 h3453]; rfl
   ·
    have h3454 := nt_f h3452
    refine wpf_skip ?_
    refine thn_n ?_
    refine wpf_mid (fun f' w' => (f' 3 = .slice (some ⟨B3407, 0, none⟩) xs3409.length cap3408 ∧ f' 4 = .pointer (some ⟨B3416, 0, none⟩) ∧ f' 5 = .bool (reachIn xs3409 r3410) ∧ f' 6 = .bool (can || rightIn r3410 x3447) ∧ f' 7 = .int .i64 (k : Int)) ∧ w3449.grownBy w' none) ?_ ?_
    ·
     rcases bcases (can) with h3460 | h3460
     ·
      refine wpf_draw (m := 7) (vals := [(41, .bool can), (42, .bool can), (43, undef), (44, undef), (45, undef), (46, undef), (47, undef)]) (fun w' => w3449.grownBy w' none) mixed_ (by kernel_rfl) (grown_drew _) ?_ ?_
      ·
       refine yll_cons rfl (fun w3461 hi3462 => ?_) ?_
       ·
        have hb3463 := low0 hb3451 hi3462
        refine wpo_move (v := .bool can) e3438 rfl ?_
        exact wpo_nil ⟨rfl, hi3462⟩
       refine yll_cons rfl (fun w3464 hi3465 => ?_) ?_
       ·
        have hb3466 := low0 hb3451 hi3465
        refine wpo_move (v := .bool can) rfl rfl ?_
        exact wpo_nil ⟨rfl, hi3465⟩
       refine yll_cons rfl (fun w3467 hi3468 => ?_) ?_
       ·
        have hb3469 := low0 hb3451 hi3468
        refine wpo_pass rfl rfl rfl h3460 rfl ?_
        exact wpo_nil ⟨rfl, hi3468⟩
       refine yll_cons rfl (fun w3470 hi3471 => ?_) ?_
       ·
        have hb3472 := low0 hb3451 hi3471
        refine wpo_pass rfl rfl rfl h3460 rfl ?_
        exact wpo_nil ⟨rfl, hi3471⟩
       refine yll_cons rfl (fun w3473 hi3474 => ?_) ?_
       ·
        have hb3475 := low0 hb3451 hi3474
        refine wpo_pass rfl rfl rfl h3460 rfl ?_
        exact wpo_nil ⟨rfl, hi3474⟩
       refine yll_cons rfl (fun w3476 hi3477 => ?_) ?_
       ·
        have hb3478 := low0 hb3451 hi3477
        refine wpo_pass rfl rfl rfl h3460 rfl ?_
        exact wpo_nil ⟨rfl, hi3477⟩
       refine yll_cons rfl (fun w3479 hi3480 => ?_) ?_
       ·
        have hb3481 := low0 hb3451 hi3480
        refine wpo_pass rfl rfl rfl h3460 rfl ?_
        exact wpo_nil ⟨rfl, hi3480⟩
       exact yll_nil
      ·
       intro w3482 hi3483
       have hb3484 := low0 hb3451 hi3483
       refine wpo_pass rfl rfl rfl h3460 rfl ?_
       refine wpo_pickt (v := .bool true) rfl h3460 rfl rfl ?_
       refine wpo_assign (v := .bool true) rfl rfl ?_
       exact wpo_nil (thn_n ⟨⟨e3440, e3441, e3442, (congrArg Value.bool (by first | (simp only [h3404, h3445, h3452, h3454, h3460, b0, b1, b2, b3, b4, b5, b6, b7, b8, b9]; done) | simp [h3404, h3445, h3452, h3454, h3460])), e3439⟩, hi3483⟩)
     ·
      refine wpf_draw (m := 7) (vals := [(41, .bool can), (42, .bool can), (43, .agg #[.int .i64 r3410.th, .int .i64 r3410.ve, .bool r3410.rd, .bool r3410.wr, .bool r3410.wk]), (44, .slice (some ⟨B3407, 0, none⟩) xs3409.length cap3408), (45, .int .i64 (k : Int)), (46, .pointer (some ⟨B3407, k * 5, none⟩)), (47, .agg #[.int .i64 x3447.th, .int .i64 x3447.ve, .bool x3447.rd, .bool x3447.wr, .bool x3447.wk])]) (fun w' => w3449.grownBy w' none) mixed_ (by kernel_rfl) (grown_drew _) ?_ ?_
      ·
       refine yll_cons rfl (fun w3497 hi3498 => ?_) ?_
       ·
        have hb3499 := low0 hb3451 hi3498
        refine wpo_move (v := .bool can) e3438 rfl ?_
        exact wpo_nil ⟨rfl, hi3498⟩
       refine yll_cons rfl (fun w3500 hi3501 => ?_) ?_
       ·
        have hb3502 := low0 hb3451 hi3501
        refine wpo_move (v := .bool can) rfl rfl ?_
        exact wpo_nil ⟨rfl, hi3501⟩
       refine yll_cons rfl (fun w3503 hi3504 => ?_) ?_
       ·
        have hb3505 := low0 hb3451 hi3504
        refine wpo_run rfl rfl rfl h3460 ?_
        have k3506 := ((k3444.grown0 hg3450).grown0 hi3504)
        refine wpo_loadn (vs := [.int .i64 r3410.th, .int .i64 r3410.ve, .bool r3410.rd, .bool r3410.wr, .bool r3410.wk]) rt_29 e3441 rfl (k3506.rangeL 0 5 rfl) rfl ?_
        exact wpo_nil ⟨rfl, hi3504⟩
       refine yll_cons rfl (fun w3507 hi3508 => ?_) ?_
       ·
        have hb3509 := low0 hb3451 hi3508
        refine wpo_run rfl rfl rfl h3460 ?_
        refine wpo_move (v := .slice (some ⟨B3407, 0, none⟩) xs3409.length cap3408) e3440 rfl ?_
        exact wpo_nil ⟨rfl, hi3508⟩
       refine yll_cons rfl (fun w3510 hi3511 => ?_) ?_
       ·
        have hb3512 := low0 hb3451 hi3511
        refine wpo_run rfl rfl rfl h3460 ?_
        refine wpo_move (v := .int .i64 (k : Int)) e3439 rfl ?_
        exact wpo_nil ⟨rfl, hi3511⟩
       refine yll_cons rfl (fun w3513 hi3514 => ?_) ?_
       ·
        have hb3515 := low0 hb3451 hi3514
        refine wpo_run rfl rfl rfl h3460 ?_
        refine wpo_indexAddr (o' := k * 5) es_27 rfl rfl (by omega) (by omega) (by omega) rfl ?_
        exact wpo_nil ⟨rfl, hi3514⟩
       refine yll_cons rfl (fun w3516 hi3517 => ?_) ?_
       ·
        have hb3518 := low0 hb3451 hi3517
        refine wpo_run rfl rfl rfl h3460 ?_
        have k3519 := ((k3443.grown0 hg3450).grown0 hi3517)
        refine wpo_loadn (vs := [.int .i64 x3447.th, .int .i64 x3447.ve, .bool x3447.rd, .bool x3447.wr, .bool x3447.wk]) rt_29 rfl rfl (range_sub (Own.range wide_rt k3519 hx3448) 0 5 rfl) rfl ?_
        exact wpo_nil ⟨rfl, hi3517⟩
       exact yll_nil
      ·
       intro w3520 hi3521
       have hb3522 := low0 hb3451 hi3521
       refine wpo_run rfl rfl rfl h3460 ?_
       refine wpo_call (vs := [.agg #[.int .i64 r3410.th, .int .i64 r3410.ve, .bool r3410.rd, .bool r3410.wr, .bool r3410.wk], .agg #[.int .i64 x3447.th, .int .i64 x3447.ve, .bool x3447.rd, .bool x3447.wr, .bool x3447.wk]]) gf_21 (args_cons rfl (args_cons rfl args_nil)) rfl (RightIn_c r3410 x3447 _) ?_
       rintro _ w3523 ⟨rfl, hg3524⟩
       have hb3525 := low0 hb3522 hg3524
       refine wpo_pickf (v := .bool (rightIn r3410 x3447)) rfl h3460 rfl rfl ?_
       refine wpo_assign (v := .bool (rightIn r3410 x3447)) rfl rfl ?_
       exact wpo_nil (thn_n ⟨⟨e3440, e3441, e3442, (congrArg Value.bool (by first | (simp only [h3404, h3445, h3452, h3454, h3460, b0, b1, b2, b3, b4, b5, b6, b7, b8, b9]; done) | simp [h3404, h3445, h3452, h3454, h3460])), e3439⟩, (grown_trans hi3521 hg3524)⟩)
    ·
     rintro f3526 w3527 ⟨⟨e3528, e3529, e3530, e3531, e3532⟩, hg3533⟩
     have hb3534 := low0 hb3451 hg3533
     refine blk_n ?_
     refine thn_n ?_
     refine wpf_region ?_
     refine wpo_move (v := .int .i64 (k : Int)) e3532 rfl ?_
     refine wpo_add (c := (k : Int) + 1) rfl rfl (by omega) (by omega) (by omega) rfl ?_
     refine wpo_assign (v := .int .i64 ((k : Int) + 1)) rfl rfl ?_
     refine wpo_nil ?_
     refine thn_n ?_
     have k3535 := ((k3443.grown0 hg3450).grown0 hg3533)
     have k3536 := ((k3444.grown0 hg3450).grown0 hg3533)
     exact ⟨xs3409.length - (k + 1), by omega, (k + 1), (can || rightIn r3410 x3447), rfl, (by omega), (take_all_succ (p := rightOk) ha hx3448 h3454), (any_acc (p := rightIn r3410) hcan hx3448), e3531, rfl, e3528, e3529, e3530, hb3534, k3535, k3536⟩
  ·
   have h3537 := of_decide_eq_false h3445
   refine wpf_exit ?_
   refine thn_e ?_
   refine thn_e ?_
   refine blk_e ?_
   refine thn_n ?_
   refine wpf_seq_region_mid (fun f' w' => (f' 2 = .bool (decide (reachIn xs3409 r3410 = (can && rightOk r3410)))) ∧ w3435.grownBy w' none) ?_ ?_
   ·
    refine wpo_move (v := .bool (reachIn xs3409 r3410)) e3442 rfl ?_
    refine wpo_move (v := .bool can) e3438 rfl ?_
    refine wpo_move (v := .bool can) rfl rfl ?_
    rcases bcases (can) with h3541 | h3541
    ·
     refine wpo_run rfl rfl rfl h3541 ?_
     refine wpo_loadn (vs := [.int .i64 r3410.th, .int .i64 r3410.ve, .bool r3410.rd, .bool r3410.wr, .bool r3410.wk]) rt_29 e3441 rfl (k3444.rangeL 0 5 rfl) rfl ?_
     refine wpo_run rfl rfl rfl h3541 ?_
     refine wpo_call (vs := [.agg #[.int .i64 r3410.th, .int .i64 r3410.ve, .bool r3410.rd, .bool r3410.wr, .bool r3410.wk]]) gf_20 (args_cons rfl args_nil) rfl (RightOk_c r3410 _) ?_
     rintro _ w3542 ⟨rfl, hg3543⟩
     have hb3544 := low0 hb3436 hg3543
     refine wpo_pickt (v := .bool (rightOk r3410)) rfl h3541 rfl rfl ?_
     refine wpo_eqlb (q := decide (reachIn xs3409 r3410 = rightOk r3410)) (by kernel_rfl) rfl rfl rfl rfl ?_
     refine wpo_assign (v := .bool (decide (reachIn xs3409 r3410 = rightOk r3410))) rfl rfl ?_
     exact wpo_nil ⟨(congrArg Value.bool (by first | (simp only [h3404, h3445, h3541, b0, b1, b2, b3, b4, b5, b6, b7, b8, b9]; done) | simp [h3404, h3445, h3541])), hg3543⟩
    ·
     refine wpo_pass rfl rfl rfl h3541 rfl ?_
     refine wpo_pass rfl rfl rfl h3541 rfl ?_
     refine wpo_pickf (v := .bool false) rfl h3541 rfl rfl ?_
     refine wpo_eqlb (q := decide (reachIn xs3409 r3410 = false)) (by kernel_rfl) rfl rfl rfl rfl ?_
     refine wpo_assign (v := .bool (decide (reachIn xs3409 r3410 = false))) rfl rfl ?_
     exact wpo_nil ⟨(congrArg Value.bool (by first | (simp only [h3404, h3445, h3541, b0, b1, b2, b3, b4, b5, b6, b7, b8, b9]; done) | simp [h3404, h3445, h3541])), (World.grownBy.refl _ _)⟩
   ·
    rintro f3545 w3546 ⟨e3547, hg3548⟩
    have hb3549 := low0 hb3436 hg3548
    refine wpf_ret ?_
    refine ⟨.bool (decide (reachIn xs3409 r3410 = (can && rightOk r3410))), res1 rfl e3547, ?_, hb3549⟩
    rw [reach_law (all_of_take (p := rightOk) ha (by omega)), hcan, List.take_of_length_le (by omega)]; simp

end Go.Proofs.Ytlkmdoebmklbbaa
