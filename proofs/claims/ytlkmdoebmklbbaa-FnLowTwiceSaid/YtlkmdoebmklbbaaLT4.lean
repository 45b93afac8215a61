/- Walks, printed by a program of mine (gen.py) out of the functions. -/
import Derived.Test.YtlkmdoebmklbbaaLT3
namespace Go.Proofs.Ytlkmdoebmklbbaa
open Go.RowKit Go.Dw
set_option maxRecDepth 100000
set_option maxHeartbeats 4000000
set_option linter.unusedSimpArgs false
set_option linter.unusedVariables false
theorem l11Check_c (q : Cl) (w : World) (ms : List MTh) (a : Option Addr) (c : Nat) (ht : TabAt w a ms) (hlen : TabLen ms) (hn : ms.length ≤ 1048576) (hT : tableOk (tabT ms) = true) (hc : callOk q = true) (hk : kindAt (tabT ms) q.run 3 = true) : CallsR Try.prog 119 #[.slice a ms.length c, .agg #[.int .i64 q.kind, .int .i64 q.run, .int .i64 q.a, .int .i64 q.b, .int .i64 q.n]] w (fun v w' => v = .int .i64 (check1 (tabT ms) q) ∧ w.grownBy w' none) := by
 refine calls_of_wpf (n := 95) Try.func119 rfl Try.ntmps119 rfl ?_
 have hb0 := World.grownBy.refl w none
 have hco := callOk_iff hc
 have hkp := (kindAt_parts hk).1
 have h4 := run_slots hT hk
 refine wpf_seq_region ?_
 refine wpo_box (v := .agg #[.int .i64 q.kind, .int .i64 q.run, .int .i64 q.a, .int .i64 q.b, .int .i64 q.n]) (cs := #[.int .i64 q.kind, .int .i64 q.run, .int .i64 q.a, .int .i64 q.b, .int .i64 q.n]) rfl rfl rfl ?_
 intro B101 w102 hN103
 have hlB101 := hN_ge hN103 hb0
 have hb104 := low0 hb0 hN103.grw
 refine wpo_assign (v := .int .i64 0) rfl rfl ?_
 refine wpo_nil ?_
 refine wpf_seq ?_
 refine wpf_seq_region ?_
 refine wpo_fieldAddr (o' := 0) fo_76_0 rfl rfl rfl ?_
 refine wpo_load1 (v := .int .i64 q.kind) ot_3 rfl (hN103.blk.cell rfl) rfl ?_
 refine wpo_eql (q := decide (q.kind = 3)) rfl rfl rfl rfl ?_
 refine wpo_nil ?_
 refine wpf_cond rfl (fun h105 => ?_) (fun h105 => ?_)
 ·
  have h106 := of_decide_eq_true h105
  refine wpf_seq_region ?_
  refine wpo_assign (v := .int .i64 0) rfl rfl ?_
  refine wpo_nil ?_
  refine wpf_ret ?_
  refine thn_r ?_
  refine ⟨.int .i64 0, res1 rfl rfl, ?_, hb104⟩
  exact congrArg (Value.int .i64) (check_copy h105)
 ·
  have h107 := of_decide_eq_false h105
  refine wpf_skip ?_
  refine thn_n ?_
  refine wpf_seq ?_
  obtain ⟨b160, q161, o162, ha163, ho164, hr165⟩ := SlAt.at (TabAt.low ht hb104).1 (map_get (mAt_get (show (q.run - 1).toNat < ms.length by omega)))
  have hle166 := TabLen.at hlen (mAt_get (show (q.run - 1).toNat < ms.length by omega))
  obtain ⟨b169, q170, o171, ha172, ho173, hr174⟩ := SlAt.at (TabAt.th (TabAt.low ht hb104) (mAt_get (show (q.run - 1).toNat < ms.length by omega))).1 (map_get (rAt_get (show (q.a).toNat < (mAt ms ((q.run - 1).toNat)).t.slots.length by omega)))
  have hts175 := tab_slot hT (show ((q.run - 1).toNat) < ms.length by omega) (show ((q.a).toNat) < (mAt ms ((q.run - 1).toNat)).t.slots.length by omega)
  refine wpf_drawI (m := 12) [[], [], [1], [1, 2], [0, 1, 2, 3], [0, 1, 2, 3, 4], [0, 1, 2, 3, 4, 5], [], [7], [0, 1, 2, 3, 4, 5, 6, 7, 8], [0, 1, 2, 3, 4, 5, 6, 7, 8, 9], [], [0, 1, 2, 3, 4, 5, 6, 7, 8, 9, 10, 11]] (fun S F w' => ∃ (B180 : Nat), w102.grownBy w' none ∧ F 0 = .slice a ms.length c ∧ F 3 = .pointer (some ⟨B101, 0, none⟩) ∧ F 4 = .int .i64 0 ∧ (S 0 = true → F 11 = .slice a ms.length c) ∧ (S 1 = true → F 12 = .pointer (some ⟨B101, 1, none⟩)) ∧ (S 2 = true → F 13 = .int .i64 q.run) ∧ (S 3 = true → F 14 = .int .i64 (q.run - 1)) ∧ (S 4 = true → F 15 = .pointer (some ⟨b160, o162, none⟩)) ∧ (S 5 = true → F 16 = .pointer (some ⟨b160, o162 + 5, none⟩)) ∧ (S 6 = true → F 17 = .slice ((mAt ms ((q.run - 1).toNat)).sa) ((mAt ms ((q.run - 1).toNat)).t.slots.length) ((mAt ms ((q.run - 1).toNat)).sc)) ∧ (S 7 = true → F 18 = .pointer (some ⟨B101, 2, none⟩)) ∧ (S 8 = true → F 19 = .int .i64 q.a) ∧ (S 9 = true → F 20 = .pointer (some ⟨b169, o171, none⟩)) ∧ (S 10 = true → F 21 = .agg #[.int .i64 ((rAt (mAt ms ((q.run - 1).toNat)).t.slots ((q.a).toNat)).th), .int .i64 ((rAt (mAt ms ((q.run - 1).toNat)).t.slots ((q.a).toNat)).ve), .bool ((rAt (mAt ms ((q.run - 1).toNat)).t.slots ((q.a).toNat)).rd), .bool ((rAt (mAt ms ((q.run - 1).toNat)).t.slots ((q.a).toNat)).wr), .bool ((rAt (mAt ms ((q.run - 1).toNat)).t.slots ((q.a).toNat)).wk)]) ∧ (S 11 = true → F 5 = .pointer (some ⟨B180, 0, none⟩) ∧ w.heap.size ≤ B180 ∧ Blk w' B180 29 #[.int .i64 0, .int .i64 0, .bool false, .bool false, .bool false] ∧ B101 < B180 ∧ w102.heap.size ≤ B180)) mixed_ (by kernel_rfl) ⟨0, grown_drew _, rfl, rfl, rfl, fun h => not_begun h, fun h => not_begun h, fun h => not_begun h, fun h => not_begun h, fun h => not_begun h, fun h => not_begun h, fun h => not_begun h, fun h => not_begun h, fun h => not_begun h, fun h => not_begun h, fun h => not_begun h, fun h => not_begun h⟩ ?_ ?_
  ·
   refine preL_cons (fun S F w184 hS hbef hcl hI => ?_) ?_
   ·
    obtain ⟨B180, hi185, e186, e187, e188, c_0, c_1, c_2, c_3, c_4, c_5, c_6, c_7, c_8, c_9, c_10, c_11⟩ := hI
    have hb189 := low0 hb104 hi185
    refine wpo_move (v := .slice a ms.length c) e186 rfl ?_
    exact wpo_nil ⟨B180, hi185, e186, e187, e188, fun _ => rfl, c_1, c_2, c_3, fun h => undone 4 hS hcl rfl h, fun h => undone 5 hS hcl rfl h, fun h => undone 6 hS hcl rfl h, c_7, c_8, fun h => undone 9 hS hcl rfl h, fun h => undone 10 hS hcl rfl h, c_11⟩
   refine preL_cons (fun S F w190 hS hbef hcl hI => ?_) ?_
   ·
    obtain ⟨B180, hi191, e192, e193, e194, c_0, c_1, c_2, c_3, c_4, c_5, c_6, c_7, c_8, c_9, c_10, c_11⟩ := hI
    have hb195 := low0 hb104 hi191
    refine wpo_fieldAddr (o' := 1) fo_76_1 e193 rfl rfl ?_
    exact wpo_nil ⟨B180, hi191, e192, e193, e194, c_0, fun _ => rfl, fun h => undone 2 hS hcl rfl h, fun h => undone 3 hS hcl rfl h, fun h => undone 4 hS hcl rfl h, fun h => undone 5 hS hcl rfl h, fun h => undone 6 hS hcl rfl h, c_7, c_8, fun h => undone 9 hS hcl rfl h, fun h => undone 10 hS hcl rfl h, c_11⟩
   refine preL_cons (fun S F w196 hS hbef hcl hI => ?_) ?_
   ·
    obtain ⟨B180, hi197, e198, e199, e200, c_0, c_1, c_2, c_3, c_4, c_5, c_6, c_7, c_8, c_9, c_10, c_11⟩ := hI
    have hb201 := low0 hb104 hi197
    obtain e202 := c_1 (ready_of 1 hbef rfl)
    have k203 := (hN103.blk.grown0 hi197)
    refine wpo_load1 (v := .int .i64 q.run) ot_3 e202 (k203.cell rfl) rfl ?_
    exact wpo_nil ⟨B180, hi197, e198, e199, e200, c_0, c_1, fun _ => rfl, fun h => undone 3 hS hcl rfl h, fun h => undone 4 hS hcl rfl h, fun h => undone 5 hS hcl rfl h, fun h => undone 6 hS hcl rfl h, c_7, c_8, fun h => undone 9 hS hcl rfl h, fun h => undone 10 hS hcl rfl h, c_11⟩
   refine preL_cons (fun S F w204 hS hbef hcl hI => ?_) ?_
   ·
    obtain ⟨B180, hi205, e206, e207, e208, c_0, c_1, c_2, c_3, c_4, c_5, c_6, c_7, c_8, c_9, c_10, c_11⟩ := hI
    have hb209 := low0 hb104 hi205
    obtain e210 := c_1 (ready_of 1 hbef rfl)
    obtain e211 := c_2 (ready_of 2 hbef rfl)
    refine wpo_sub (c := q.run - 1) e211 rfl (by omega) (by omega) (by omega) rfl ?_
    exact wpo_nil ⟨B180, hi205, e206, e207, e208, c_0, c_1, c_2, fun _ => rfl, fun h => undone 4 hS hcl rfl h, fun h => undone 5 hS hcl rfl h, fun h => undone 6 hS hcl rfl h, c_7, c_8, fun h => undone 9 hS hcl rfl h, fun h => undone 10 hS hcl rfl h, c_11⟩
   refine preL_cons (fun S F w212 hS hbef hcl hI => ?_) ?_
   ·
    obtain ⟨B180, hi213, e214, e215, e216, c_0, c_1, c_2, c_3, c_4, c_5, c_6, c_7, c_8, c_9, c_10, c_11⟩ := hI
    have hb217 := low0 hb104 hi213
    obtain e218 := c_0 (ready_of 0 hbef rfl)
    obtain e219 := c_1 (ready_of 1 hbef rfl)
    obtain e220 := c_2 (ready_of 2 hbef rfl)
    obtain e221 := c_3 (ready_of 3 hbef rfl)
    refine wpo_indexE es_54 e218 e221 ha163 ho164 (by omega) (by omega) rfl ?_
    exact wpo_nil ⟨B180, hi213, e214, e215, e216, c_0, c_1, c_2, c_3, fun _ => rfl, fun h => undone 5 hS hcl rfl h, fun h => undone 6 hS hcl rfl h, c_7, c_8, fun h => undone 9 hS hcl rfl h, fun h => undone 10 hS hcl rfl h, c_11⟩
   refine preL_cons (fun S F w222 hS hbef hcl hI => ?_) ?_
   ·
    obtain ⟨B180, hi223, e224, e225, e226, c_0, c_1, c_2, c_3, c_4, c_5, c_6, c_7, c_8, c_9, c_10, c_11⟩ := hI
    have hb227 := low0 hb104 hi223
    obtain e228 := c_0 (ready_of 0 hbef rfl)
    obtain e229 := c_1 (ready_of 1 hbef rfl)
    obtain e230 := c_2 (ready_of 2 hbef rfl)
    obtain e231 := c_3 (ready_of 3 hbef rfl)
    obtain e232 := c_4 (ready_of 4 hbef rfl)
    refine wpo_fieldAddr (o' := o162 + 5) fo_45_4 e232 rfl rfl ?_
    exact wpo_nil ⟨B180, hi223, e224, e225, e226, c_0, c_1, c_2, c_3, c_4, fun _ => rfl, fun h => undone 6 hS hcl rfl h, c_7, c_8, fun h => undone 9 hS hcl rfl h, fun h => undone 10 hS hcl rfl h, c_11⟩
   refine preL_cons (fun S F w233 hS hbef hcl hI => ?_) ?_
   ·
    obtain ⟨B180, hi234, e235, e236, e237, c_0, c_1, c_2, c_3, c_4, c_5, c_6, c_7, c_8, c_9, c_10, c_11⟩ := hI
    have hb238 := low0 hb104 hi234
    obtain e239 := c_0 (ready_of 0 hbef rfl)
    obtain e240 := c_1 (ready_of 1 hbef rfl)
    obtain e241 := c_2 (ready_of 2 hbef rfl)
    obtain e242 := c_3 (ready_of 3 hbef rfl)
    obtain e243 := c_4 (ready_of 4 hbef rfl)
    obtain e244 := c_5 (ready_of 5 hbef rfl)
    refine wpo_load1 (v := .slice ((mAt ms ((q.run - 1).toNat)).sa) ((mAt ms ((q.run - 1).toNat)).t.slots.length) ((mAt ms ((q.run - 1).toNat)).sc)) ot_27 e244 ((range_low hr165 hi234) 5 _ rfl) rfl ?_
    exact wpo_nil ⟨B180, hi234, e235, e236, e237, c_0, c_1, c_2, c_3, c_4, c_5, fun _ => rfl, c_7, c_8, fun h => undone 9 hS hcl rfl h, fun h => undone 10 hS hcl rfl h, c_11⟩
   refine preL_cons (fun S F w245 hS hbef hcl hI => ?_) ?_
   ·
    obtain ⟨B180, hi246, e247, e248, e249, c_0, c_1, c_2, c_3, c_4, c_5, c_6, c_7, c_8, c_9, c_10, c_11⟩ := hI
    have hb250 := low0 hb104 hi246
    refine wpo_fieldAddr (o' := 2) fo_76_2 e248 rfl rfl ?_
    exact wpo_nil ⟨B180, hi246, e247, e248, e249, c_0, c_1, c_2, c_3, c_4, c_5, c_6, fun _ => rfl, fun h => undone 8 hS hcl rfl h, fun h => undone 9 hS hcl rfl h, fun h => undone 10 hS hcl rfl h, c_11⟩
   refine preL_cons (fun S F w251 hS hbef hcl hI => ?_) ?_
   ·
    obtain ⟨B180, hi252, e253, e254, e255, c_0, c_1, c_2, c_3, c_4, c_5, c_6, c_7, c_8, c_9, c_10, c_11⟩ := hI
    have hb256 := low0 hb104 hi252
    obtain e257 := c_7 (ready_of 7 hbef rfl)
    have k258 := (hN103.blk.grown0 hi252)
    refine wpo_load1 (v := .int .i64 q.a) ot_3 e257 (k258.cell rfl) rfl ?_
    exact wpo_nil ⟨B180, hi252, e253, e254, e255, c_0, c_1, c_2, c_3, c_4, c_5, c_6, c_7, fun _ => rfl, fun h => undone 9 hS hcl rfl h, fun h => undone 10 hS hcl rfl h, c_11⟩
   refine preL_cons (fun S F w259 hS hbef hcl hI => ?_) ?_
   ·
    obtain ⟨B180, hi260, e261, e262, e263, c_0, c_1, c_2, c_3, c_4, c_5, c_6, c_7, c_8, c_9, c_10, c_11⟩ := hI
    have hb264 := low0 hb104 hi260
    obtain e265 := c_0 (ready_of 0 hbef rfl)
    obtain e266 := c_1 (ready_of 1 hbef rfl)
    obtain e267 := c_2 (ready_of 2 hbef rfl)
    obtain e268 := c_3 (ready_of 3 hbef rfl)
    obtain e269 := c_4 (ready_of 4 hbef rfl)
    obtain e270 := c_5 (ready_of 5 hbef rfl)
    obtain e271 := c_6 (ready_of 6 hbef rfl)
    obtain e272 := c_7 (ready_of 7 hbef rfl)
    obtain e273 := c_8 (ready_of 8 hbef rfl)
    refine wpo_indexE es_27 e271 e273 ha172 ho173 (by omega) (by omega) rfl ?_
    exact wpo_nil ⟨B180, hi260, e261, e262, e263, c_0, c_1, c_2, c_3, c_4, c_5, c_6, c_7, c_8, fun _ => rfl, fun h => undone 10 hS hcl rfl h, c_11⟩
   refine preL_cons (fun S F w274 hS hbef hcl hI => ?_) ?_
   ·
    obtain ⟨B180, hi275, e276, e277, e278, c_0, c_1, c_2, c_3, c_4, c_5, c_6, c_7, c_8, c_9, c_10, c_11⟩ := hI
    have hb279 := low0 hb104 hi275
    obtain e280 := c_0 (ready_of 0 hbef rfl)
    obtain e281 := c_1 (ready_of 1 hbef rfl)
    obtain e282 := c_2 (ready_of 2 hbef rfl)
    obtain e283 := c_3 (ready_of 3 hbef rfl)
    obtain e284 := c_4 (ready_of 4 hbef rfl)
    obtain e285 := c_5 (ready_of 5 hbef rfl)
    obtain e286 := c_6 (ready_of 6 hbef rfl)
    obtain e287 := c_7 (ready_of 7 hbef rfl)
    obtain e288 := c_8 (ready_of 8 hbef rfl)
    obtain e289 := c_9 (ready_of 9 hbef rfl)
    refine wpo_loadn (vs := [.int .i64 ((rAt (mAt ms ((q.run - 1).toNat)).t.slots ((q.a).toNat)).th), .int .i64 ((rAt (mAt ms ((q.run - 1).toNat)).t.slots ((q.a).toNat)).ve), .bool ((rAt (mAt ms ((q.run - 1).toNat)).t.slots ((q.a).toNat)).rd), .bool ((rAt (mAt ms ((q.run - 1).toNat)).t.slots ((q.a).toNat)).wr), .bool ((rAt (mAt ms ((q.run - 1).toNat)).t.slots ((q.a).toNat)).wk)]) rt_29 e289 rfl (range_sub (range_low hr174 hi275) 0 5 rfl) rfl ?_
    exact wpo_nil ⟨B180, hi275, e276, e277, e278, c_0, c_1, c_2, c_3, c_4, c_5, c_6, c_7, c_8, c_9, fun _ => rfl, c_11⟩
   refine preL_cons (fun S F w290 hS hbef hcl hI => ?_) ?_
   ·
    obtain ⟨B180, hi291, e292, e293, e294, c_0, c_1, c_2, c_3, c_4, c_5, c_6, c_7, c_8, c_9, c_10, c_11⟩ := hI
    have hb295 := low0 hb104 hi291
    refine wpo_alloc (cs := #[.int .i64 0, .int .i64 0, .bool false, .bool false, .bool false]) zt_29 rfl rfl ?_
    intro B296 w297 hN298
    have hlB296 := hN_ge hN298 hb295
    have k299 := (hN103.blk.grown0 hi291)
    have lt_B101_B296 := hN_gtl hN298 (k299).lt
    have hb300 := low0 hb295 hN298.grw
    exact wpo_nil ⟨B296, (low0 hi291 hN298.grw), e292, e293, e294, c_0, c_1, c_2, c_3, c_4, c_5, c_6, c_7, c_8, c_9, c_10, fun _ => ⟨rfl, hlB296, hN298.blk, lt_B101_B296, (Nat.le_trans hi291.size (Nat.le_of_eq hN298.eq.symm))⟩⟩
   exact preL_nil
  ·
   intro S F w301 hall hI
   obtain ⟨B180, hi302, e303, e304, e305, c_0, c_1, c_2, c_3, c_4, c_5, c_6, c_7, c_8, c_9, c_10, c_11⟩ := hI
   have hb306 := low0 hb104 hi302
   obtain e307 := c_0 (hall 0 (by decide))
   obtain e308 := c_1 (hall 1 (by decide))
   obtain e309 := c_2 (hall 2 (by decide))
   obtain e310 := c_3 (hall 3 (by decide))
   obtain e311 := c_4 (hall 4 (by decide))
   obtain e312 := c_5 (hall 5 (by decide))
   obtain e313 := c_6 (hall 6 (by decide))
   obtain e314 := c_7 (hall 7 (by decide))
   obtain e315 := c_8 (hall 8 (by decide))
   obtain e316 := c_9 (hall 9 (by decide))
   obtain e317 := c_10 (hall 10 (by decide))
   obtain ⟨e318, hlB180, kb_B180, lt_B101_B180, hk_B180⟩ := c_11 (hall 11 (by decide))
   refine wpo_storen (vs := [.int .i64 ((rAt (mAt ms ((q.run - 1).toNat)).t.slots ((q.a).toNat)).th), .int .i64 ((rAt (mAt ms ((q.run - 1).toNat)).t.slots ((q.a).toNat)).ve), .bool ((rAt (mAt ms ((q.run - 1).toNat)).t.slots ((q.a).toNat)).rd), .bool ((rAt (mAt ms ((q.run - 1).toNat)).t.slots ((q.a).toNat)).wr), .bool ((rAt (mAt ms ((q.run - 1).toNat)).t.slots ((q.a).toNat)).wk)]) (cs' := #[.int .i64 ((rAt (mAt ms ((q.run - 1).toNat)).t.slots ((q.a).toNat)).th), .int .i64 ((rAt (mAt ms ((q.run - 1).toNat)).t.slots ((q.a).toNat)).ve), .bool ((rAt (mAt ms ((q.run - 1).toNat)).t.slots ((q.a).toNat)).rd), .bool ((rAt (mAt ms ((q.run - 1).toNat)).t.slots ((q.a).toNat)).wr), .bool ((rAt (mAt ms ((q.run - 1).toNat)).t.slots ((q.a).toNat)).wk)]) rt_29 e318 e317 rfl (by simp [Value.oneCell']) kb_B180 (Nat.le_of_ble_eq_true rfl) rfl ?_
   intro w319 hS320
   have hb321 := low1 hb306 hS320.grw (by omega)
   refine wpo_nil ?_
   refine thn_n ?_
   refine wpf_seq_region ?_
   refine wpo_fieldAddr (o' := 0) fo_76_0 e304 rfl rfl ?_
   have k322 := ((hN103.blk.grown0 hi302).grown hS320.grw (some_ne (by omega)))
   refine wpo_load1 (v := .int .i64 q.kind) ot_3 rfl (k322.cell rfl) rfl ?_
   refine wpo_call (vs := [.int .i64 q.kind]) gf_123 (args_cons rfl args_nil) rfl (l11Needs_c q.kind _) ?_
   rintro _ w327 ⟨B323, rfl, hge324, k325, hg326⟩
   have hb328 := low0 hb321 hg326
   have hlB323 := Nat.le_trans hb321.size hge324
   have lt_B101_B323 := Nat.lt_of_lt_of_le (k322).lt hge324
   have lt_B180_B323 := Nat.lt_of_lt_of_le (hS320.blk).lt hge324
   refine wpo_assign (v := .slice (some ⟨B323, 0, none⟩) 4 4) rfl rfl ?_
   refine wpo_nil ?_
   refine wpf_seq ?_
   refine wpf_seq_mid (fun f' w' => (f' 0 = .slice a ms.length c ∧ f' 3 = .pointer (some ⟨B101, 0, none⟩) ∧ f' 4 = .int .i64 0 ∧ f' 5 = .pointer (some ⟨B180, 0, none⟩) ∧ f' 6 = .slice (some ⟨B323, 0, none⟩) 4 4 ∧ f' 60 = .bool ((((decide ((rAt (mAt ms ((q.run - 1).toNat)).t.slots ((q.a).toNat)).th = 0)) || (!kindFor q.kind ((mAt ms ((((rAt (mAt ms ((q.run - 1).toNat)).t.slots ((q.a).toNat)).th) - 1).toNat)).t.kind))) || (need0 q.kind && (!(rAt (mAt ms ((q.run - 1).toNat)).t.slots ((q.a).toNat)).rd))) || (need1 q.kind && (!(rAt (mAt ms ((q.run - 1).toNat)).t.slots ((q.a).toNat)).wr)))) ∧ w327.grownBy w' none) ?_ ?_
   ·
    rcases bcases (decide ((rAt (mAt ms ((q.run - 1).toNat)).t.slots ((q.a).toNat)).th = 0)) with h347 | h347
    ·
     have h348 := of_decide_eq_true h347
     refine wpf_draw (m := 13) (vals := [(25, .pointer (some ⟨B180, 0, none⟩)), (26, .int .i64 ((rAt (mAt ms ((q.run - 1).toNat)).t.slots ((q.a).toNat)).th)), (27, .bool (decide ((rAt (mAt ms ((q.run - 1).toNat)).t.slots ((q.a).toNat)).th = 0))), (28, .bool (decide ((rAt (mAt ms ((q.run - 1).toNat)).t.slots ((q.a).toNat)).th = 0))), (29, undef), (30, undef), (31, undef), (32, undef), (33, undef), (34, undef), (35, undef), (36, undef), (37, undef)]) (fun w' => w327.grownBy w' none) mixed_ (by kernel_rfl) (grown_drew _) ?_ ?_
     ·
      refine yll_cons rfl (fun w352 hi353 => ?_) ?_
      ·
       have hb354 := low0 hb328 hi353
       refine wpo_fieldAddr (o' := 0) fo_29_0 e318 rfl rfl ?_
       exact wpo_nil ⟨rfl, hi353⟩
      refine yll_cons rfl (fun w355 hi356 => ?_) ?_
      ·
       have hb357 := low0 hb328 hi356
       have k358 := ((hS320.blk.grown0 hg326).grown0 hi356)
       refine wpo_load1 (v := .int .i64 ((rAt (mAt ms ((q.run - 1).toNat)).t.slots ((q.a).toNat)).th)) ot_3 rfl (k358.cell rfl) rfl ?_
       exact wpo_nil ⟨rfl, hi356⟩
      refine yll_cons rfl (fun w359 hi360 => ?_) ?_
      ·
       have hb361 := low0 hb328 hi360
       refine wpo_eql (q := decide ((rAt (mAt ms ((q.run - 1).toNat)).t.slots ((q.a).toNat)).th = 0)) rfl rfl rfl rfl ?_
       exact wpo_nil ⟨rfl, hi360⟩
      refine yll_cons rfl (fun w362 hi363 => ?_) ?_
      ·
       have hb364 := low0 hb328 hi363
       refine wpo_move (v := .bool (decide ((rAt (mAt ms ((q.run - 1).toNat)).t.slots ((q.a).toNat)).th = 0))) rfl rfl ?_
       exact wpo_nil ⟨rfl, hi363⟩
      refine yll_cons rfl (fun w365 hi366 => ?_) ?_
      ·
       have hb367 := low0 hb328 hi366
       refine wpo_pass rfl rfl rfl h347 rfl ?_
       exact wpo_nil ⟨rfl, hi366⟩
      refine yll_cons rfl (fun w368 hi369 => ?_) ?_
      ·
       have hb370 := low0 hb328 hi369
       refine wpo_pass rfl rfl rfl h347 rfl ?_
       exact wpo_nil ⟨rfl, hi369⟩
      refine yll_cons rfl (fun w371 hi372 => ?_) ?_
      ·
       have hb373 := low0 hb328 hi372
       refine wpo_pass rfl rfl rfl h347 rfl ?_
       exact wpo_nil ⟨rfl, hi372⟩
      refine yll_cons rfl (fun w374 hi375 => ?_) ?_
      ·
       have hb376 := low0 hb328 hi375
       refine wpo_pass rfl rfl rfl h347 rfl ?_
       exact wpo_nil ⟨rfl, hi375⟩
      refine yll_cons rfl (fun w377 hi378 => ?_) ?_
      ·
       have hb379 := low0 hb328 hi378
       refine wpo_pass rfl rfl rfl h347 rfl ?_
       exact wpo_nil ⟨rfl, hi378⟩
      refine yll_cons rfl (fun w380 hi381 => ?_) ?_
      ·
       have hb382 := low0 hb328 hi381
       refine wpo_pass rfl rfl rfl h347 rfl ?_
       exact wpo_nil ⟨rfl, hi381⟩
      refine yll_cons rfl (fun w383 hi384 => ?_) ?_
      ·
       have hb385 := low0 hb328 hi384
       refine wpo_pass rfl rfl rfl h347 rfl ?_
       exact wpo_nil ⟨rfl, hi384⟩
      refine yll_cons rfl (fun w386 hi387 => ?_) ?_
      ·
       have hb388 := low0 hb328 hi387
       refine wpo_pass rfl rfl rfl h347 rfl ?_
       exact wpo_nil ⟨rfl, hi387⟩
      refine yll_cons rfl (fun w389 hi390 => ?_) ?_
      ·
       have hb391 := low0 hb328 hi390
       refine wpo_pass rfl rfl rfl h347 rfl ?_
       exact wpo_nil ⟨rfl, hi390⟩
      exact yll_nil
     ·
      intro w392 hi393
      have hb394 := low0 hb328 hi393
      refine wpo_pass rfl rfl rfl h347 rfl ?_
      refine wpo_pass rfl rfl rfl h347 rfl ?_
      refine wpo_pickt (v := .bool true) rfl h347 rfl rfl ?_
      refine wpo_move (v := .bool true) rfl rfl ?_
      iterate 4 refine wpo_pass rfl rfl rfl rfl rfl ?_
      iterate 3 refine wpo_passu rfl rfl rfl rfl ?_
      refine wpo_pass rfl rfl rfl rfl rfl ?_
      refine wpo_pickt (v := .bool true) rfl rfl rfl rfl ?_
      refine wpo_move (v := .bool true) rfl rfl ?_
      iterate 4 refine wpo_pass rfl rfl rfl rfl rfl ?_
      iterate 3 refine wpo_passu rfl rfl rfl rfl ?_
      refine wpo_pass rfl rfl rfl rfl rfl ?_
      refine wpo_pickt (v := .bool true) rfl rfl rfl rfl ?_
      exact wpo_nil (thn_n ⟨⟨e303, e304, e305, e318, rfl, (congrArg Value.bool (by first | (simp only [h105, h347, hT, b0, b1, b2, b3, b4, b5, b6, b7, b8, b9]; done) | simp [h105, h347, hT]))⟩, hi393⟩)
    ·
     have h395 := of_decide_eq_false h347
     rcases bcases (!kindFor q.kind ((mAt ms ((((rAt (mAt ms ((q.run - 1).toNat)).t.slots ((q.a).toNat)).th) - 1).toNat)).t.kind)) with h410 | h410
     ·
      have h411 := nt_t h410
      obtain ⟨b430, q431, o432, ha433, ho434, hr435⟩ := SlAt.at (TabAt.low ht hb328).1 (map_get (mAt_get (show (((rAt (mAt ms ((q.run - 1).toNat)).t.slots ((q.a).toNat)).th) - 1).toNat < ms.length by omega)))
      have hle436 := TabLen.at hlen (mAt_get (show (((rAt (mAt ms ((q.run - 1).toNat)).t.slots ((q.a).toNat)).th) - 1).toNat < ms.length by omega))
      refine wpf_draw (m := 13) (vals := [(25, .pointer (some ⟨B180, 0, none⟩)), (26, .int .i64 ((rAt (mAt ms ((q.run - 1).toNat)).t.slots ((q.a).toNat)).th)), (27, .bool (decide ((rAt (mAt ms ((q.run - 1).toNat)).t.slots ((q.a).toNat)).th = 0))), (28, .bool (decide ((rAt (mAt ms ((q.run - 1).toNat)).t.slots ((q.a).toNat)).th = 0))), (29, .pointer (some ⟨B101, 0, none⟩)), (30, .int .i64 q.kind), (31, .slice a ms.length c), (32, .pointer (some ⟨B180, 0, none⟩)), (33, .int .i64 ((rAt (mAt ms ((q.run - 1).toNat)).t.slots ((q.a).toNat)).th)), (34, .int .i64 (((rAt (mAt ms ((q.run - 1).toNat)).t.slots ((q.a).toNat)).th) - 1)), (35, .pointer (some ⟨b430, o432, none⟩)), (36, .pointer (some ⟨b430, o432, none⟩)), (37, .int .i64 ((mAt ms ((((rAt (mAt ms ((q.run - 1).toNat)).t.slots ((q.a).toNat)).th) - 1).toNat)).t.kind))]) (fun w' => w327.grownBy w' none) mixed_ (by kernel_rfl) (grown_drew _) ?_ ?_
      ·
       refine yll_cons rfl (fun w442 hi443 => ?_) ?_
       ·
        have hb444 := low0 hb328 hi443
        refine wpo_fieldAddr (o' := 0) fo_29_0 e318 rfl rfl ?_
        exact wpo_nil ⟨rfl, hi443⟩
       refine yll_cons rfl (fun w445 hi446 => ?_) ?_
       ·
        have hb447 := low0 hb328 hi446
        have k448 := ((hS320.blk.grown0 hg326).grown0 hi446)
        refine wpo_load1 (v := .int .i64 ((rAt (mAt ms ((q.run - 1).toNat)).t.slots ((q.a).toNat)).th)) ot_3 rfl (k448.cell rfl) rfl ?_
        exact wpo_nil ⟨rfl, hi446⟩
       refine yll_cons rfl (fun w449 hi450 => ?_) ?_
       ·
        have hb451 := low0 hb328 hi450
        refine wpo_eql (q := decide ((rAt (mAt ms ((q.run - 1).toNat)).t.slots ((q.a).toNat)).th = 0)) rfl rfl rfl rfl ?_
        exact wpo_nil ⟨rfl, hi450⟩
       refine yll_cons rfl (fun w452 hi453 => ?_) ?_
       ·
        have hb454 := low0 hb328 hi453
        refine wpo_move (v := .bool (decide ((rAt (mAt ms ((q.run - 1).toNat)).t.slots ((q.a).toNat)).th = 0))) rfl rfl ?_
        exact wpo_nil ⟨rfl, hi453⟩
       refine yll_cons rfl (fun w455 hi456 => ?_) ?_
       ·
        have hb457 := low0 hb328 hi456
        refine wpo_run rfl rfl rfl h347 ?_
        refine wpo_fieldAddr (o' := 0) fo_76_0 e304 rfl rfl ?_
        exact wpo_nil ⟨rfl, hi456⟩
       refine yll_cons rfl (fun w458 hi459 => ?_) ?_
       ·
        have hb460 := low0 hb328 hi459
        refine wpo_run rfl rfl rfl h347 ?_
        have k461 := ((k322.grown0 hg326).grown0 hi459)
        refine wpo_load1 (v := .int .i64 q.kind) ot_3 rfl (k461.cell rfl) rfl ?_
        exact wpo_nil ⟨rfl, hi459⟩
       refine yll_cons rfl (fun w462 hi463 => ?_) ?_
       ·
        have hb464 := low0 hb328 hi463
        refine wpo_run rfl rfl rfl h347 ?_
        refine wpo_move (v := .slice a ms.length c) e303 rfl ?_
        exact wpo_nil ⟨rfl, hi463⟩
       refine yll_cons rfl (fun w465 hi466 => ?_) ?_
       ·
        have hb467 := low0 hb328 hi466
        refine wpo_run rfl rfl rfl h347 ?_
        refine wpo_fieldAddr (o' := 0) fo_29_0 e318 rfl rfl ?_
        exact wpo_nil ⟨rfl, hi466⟩
       refine yll_cons rfl (fun w468 hi469 => ?_) ?_
       ·
        have hb470 := low0 hb328 hi469
        refine wpo_run rfl rfl rfl h347 ?_
        have k471 := ((hS320.blk.grown0 hg326).grown0 hi469)
        refine wpo_load1 (v := .int .i64 ((rAt (mAt ms ((q.run - 1).toNat)).t.slots ((q.a).toNat)).th)) ot_3 rfl (k471.cell rfl) rfl ?_
        exact wpo_nil ⟨rfl, hi469⟩
       refine yll_cons rfl (fun w472 hi473 => ?_) ?_
       ·
        have hb474 := low0 hb328 hi473
        refine wpo_run rfl rfl rfl h347 ?_
        refine wpo_sub (c := ((rAt (mAt ms ((q.run - 1).toNat)).t.slots ((q.a).toNat)).th) - 1) rfl rfl (by omega) (by omega) (by omega) rfl ?_
        exact wpo_nil ⟨rfl, hi473⟩
       refine yll_cons rfl (fun w475 hi476 => ?_) ?_
       ·
        have hb477 := low0 hb328 hi476
        refine wpo_run rfl rfl rfl h347 ?_
        refine wpo_indexE es_54 rfl rfl ha433 ho434 (by omega) (by omega) rfl ?_
        exact wpo_nil ⟨rfl, hi476⟩
       refine yll_cons rfl (fun w478 hi479 => ?_) ?_
       ·
        have hb480 := low0 hb328 hi479
        refine wpo_run rfl rfl rfl h347 ?_
        refine wpo_fieldAddr (o' := o432) fo_45_0 rfl rfl rfl ?_
        exact wpo_nil ⟨rfl, hi479⟩
       refine yll_cons rfl (fun w481 hi482 => ?_) ?_
       ·
        have hb483 := low0 hb328 hi482
        refine wpo_run rfl rfl rfl h347 ?_
        refine wpo_load1 (v := .int .i64 ((mAt ms ((((rAt (mAt ms ((q.run - 1).toNat)).t.slots ((q.a).toNat)).th) - 1).toNat)).t.kind)) ot_3 rfl ((range_low hr435 hi482) 0 _ rfl) rfl ?_
        exact wpo_nil ⟨rfl, hi482⟩
       exact yll_nil
      ·
       intro w484 hi485
       have hb486 := low0 hb328 hi485
       refine wpo_run rfl rfl rfl h347 ?_
       refine wpo_call (vs := [.int .i64 q.kind, .int .i64 ((mAt ms ((((rAt (mAt ms ((q.run - 1).toNat)).t.slots ((q.a).toNat)).th) - 1).toNat)).t.kind)]) gf_118 (args_cons rfl (args_cons rfl args_nil)) rfl (l11Kind_c q.kind ((mAt ms ((((rAt (mAt ms ((q.run - 1).toNat)).t.slots ((q.a).toNat)).th) - 1).toNat)).t.kind) _) ?_
       rintro _ w487 ⟨rfl, hg488⟩
       have hb489 := low0 hb486 hg488
       refine wpo_run rfl rfl rfl h347 ?_
       refine wpo_not (b' := !kindFor q.kind ((mAt ms ((((rAt (mAt ms ((q.run - 1).toNat)).t.slots ((q.a).toNat)).th) - 1).toNat)).t.kind)) rfl rfl rfl ?_
       refine wpo_pickf (v := .bool (!kindFor q.kind ((mAt ms ((((rAt (mAt ms ((q.run - 1).toNat)).t.slots ((q.a).toNat)).th) - 1).toNat)).t.kind))) rfl h347 rfl rfl ?_
       refine wpo_move (v := .bool (!kindFor q.kind ((mAt ms ((((rAt (mAt ms ((q.run - 1).toNat)).t.slots ((q.a).toNat)).th) - 1).toNat)).t.kind))) rfl rfl ?_
       iterate 4 refine wpo_pass rfl rfl rfl h410 rfl ?_
       iterate 3 refine wpo_passu rfl rfl rfl rfl ?_
       refine wpo_pass rfl rfl rfl h410 rfl ?_
       refine wpo_pickt (v := .bool true) rfl h410 rfl rfl ?_
       refine wpo_move (v := .bool true) rfl rfl ?_
       iterate 4 refine wpo_pass rfl rfl rfl rfl rfl ?_
       iterate 3 refine wpo_passu rfl rfl rfl rfl ?_
       refine wpo_pass rfl rfl rfl rfl rfl ?_
       refine wpo_pickt (v := .bool true) rfl rfl rfl rfl ?_
       exact wpo_nil (thn_n ⟨⟨e303, e304, e305, e318, rfl, (congrArg Value.bool (by first | (simp only [h105, h347, h410, h411, hT, b0, b1, b2, b3, b4, b5, b6, b7, b8, b9]; done) | simp [h105, h347, h410, h411, hT]))⟩, (grown_trans hi485 hg488)⟩)
     ·
      have h490 := nt_f h410
      rcases bcases (need0 q.kind) with h506 | h506
      ·
       rcases bcases (!(rAt (mAt ms ((q.run - 1).toNat)).t.slots ((q.a).toNat)).rd) with h523 | h523
       ·
        have h524 := nt_t h523
        obtain ⟨b545, q546, o547, ha548, ho549, hr550⟩ := SlAt.at (TabAt.low ht hb328).1 (map_get (mAt_get (show (((rAt (mAt ms ((q.run - 1).toNat)).t.slots ((q.a).toNat)).th) - 1).toNat < ms.length by omega)))
        have hle551 := TabLen.at hlen (mAt_get (show (((rAt (mAt ms ((q.run - 1).toNat)).t.slots ((q.a).toNat)).th) - 1).toNat < ms.length by omega))
        refine wpf_draw (m := 13) (vals := [(25, .pointer (some ⟨B180, 0, none⟩)), (26, .int .i64 ((rAt (mAt ms ((q.run - 1).toNat)).t.slots ((q.a).toNat)).th)), (27, .bool (decide ((rAt (mAt ms ((q.run - 1).toNat)).t.slots ((q.a).toNat)).th = 0))), (28, .bool (decide ((rAt (mAt ms ((q.run - 1).toNat)).t.slots ((q.a).toNat)).th = 0))), (29, .pointer (some ⟨B101, 0, none⟩)), (30, .int .i64 q.kind), (31, .slice a ms.length c), (32, .pointer (some ⟨B180, 0, none⟩)), (33, .int .i64 ((rAt (mAt ms ((q.run - 1).toNat)).t.slots ((q.a).toNat)).th)), (34, .int .i64 (((rAt (mAt ms ((q.run - 1).toNat)).t.slots ((q.a).toNat)).th) - 1)), (35, .pointer (some ⟨b545, o547, none⟩)), (36, .pointer (some ⟨b545, o547, none⟩)), (37, .int .i64 ((mAt ms ((((rAt (mAt ms ((q.run - 1).toNat)).t.slots ((q.a).toNat)).th) - 1).toNat)).t.kind))]) (fun w' => w327.grownBy w' none) mixed_ (by kernel_rfl) (grown_drew _) ?_ ?_
        ·
         refine yll_cons rfl (fun w559 hi560 => ?_) ?_
         ·
          have hb561 := low0 hb328 hi560
          refine wpo_fieldAddr (o' := 0) fo_29_0 e318 rfl rfl ?_
          exact wpo_nil ⟨rfl, hi560⟩
         refine yll_cons rfl (fun w562 hi563 => ?_) ?_
         ·
          have hb564 := low0 hb328 hi563
          have k565 := ((hS320.blk.grown0 hg326).grown0 hi563)
          refine wpo_load1 (v := .int .i64 ((rAt (mAt ms ((q.run - 1).toNat)).t.slots ((q.a).toNat)).th)) ot_3 rfl (k565.cell rfl) rfl ?_
          exact wpo_nil ⟨rfl, hi563⟩
         refine yll_cons rfl (fun w566 hi567 => ?_) ?_
         ·
          have hb568 := low0 hb328 hi567
          refine wpo_eql (q := decide ((rAt (mAt ms ((q.run - 1).toNat)).t.slots ((q.a).toNat)).th = 0)) rfl rfl rfl rfl ?_
          exact wpo_nil ⟨rfl, hi567⟩
         refine yll_cons rfl (fun w569 hi570 => ?_) ?_
         ·
          have hb571 := low0 hb328 hi570
          refine wpo_move (v := .bool (decide ((rAt (mAt ms ((q.run - 1).toNat)).t.slots ((q.a).toNat)).th = 0))) rfl rfl ?_
          exact wpo_nil ⟨rfl, hi570⟩
         refine yll_cons rfl (fun w572 hi573 => ?_) ?_
         ·
          have hb574 := low0 hb328 hi573
          refine wpo_run rfl rfl rfl h347 ?_
          refine wpo_fieldAddr (o' := 0) fo_76_0 e304 rfl rfl ?_
          exact wpo_nil ⟨rfl, hi573⟩
         refine yll_cons rfl (fun w575 hi576 => ?_) ?_
         ·
          have hb577 := low0 hb328 hi576
          refine wpo_run rfl rfl rfl h347 ?_
          have k578 := ((k322.grown0 hg326).grown0 hi576)
          refine wpo_load1 (v := .int .i64 q.kind) ot_3 rfl (k578.cell rfl) rfl ?_
          exact wpo_nil ⟨rfl, hi576⟩
         refine yll_cons rfl (fun w579 hi580 => ?_) ?_
         ·
          have hb581 := low0 hb328 hi580
          refine wpo_run rfl rfl rfl h347 ?_
          refine wpo_move (v := .slice a ms.length c) e303 rfl ?_
          exact wpo_nil ⟨rfl, hi580⟩
         refine yll_cons rfl (fun w582 hi583 => ?_) ?_
         ·
          have hb584 := low0 hb328 hi583
          refine wpo_run rfl rfl rfl h347 ?_
          refine wpo_fieldAddr (o' := 0) fo_29_0 e318 rfl rfl ?_
          exact wpo_nil ⟨rfl, hi583⟩
         refine yll_cons rfl (fun w585 hi586 => ?_) ?_
         ·
          have hb587 := low0 hb328 hi586
          refine wpo_run rfl rfl rfl h347 ?_
          have k588 := ((hS320.blk.grown0 hg326).grown0 hi586)
          refine wpo_load1 (v := .int .i64 ((rAt (mAt ms ((q.run - 1).toNat)).t.slots ((q.a).toNat)).th)) ot_3 rfl (k588.cell rfl) rfl ?_
          exact wpo_nil ⟨rfl, hi586⟩
         refine yll_cons rfl (fun w589 hi590 => ?_) ?_
         ·
          have hb591 := low0 hb328 hi590
          refine wpo_run rfl rfl rfl h347 ?_
          refine wpo_sub (c := ((rAt (mAt ms ((q.run - 1).toNat)).t.slots ((q.a).toNat)).th) - 1) rfl rfl (by omega) (by omega) (by omega) rfl ?_
          exact wpo_nil ⟨rfl, hi590⟩
         refine yll_cons rfl (fun w592 hi593 => ?_) ?_
         ·
          have hb594 := low0 hb328 hi593
          refine wpo_run rfl rfl rfl h347 ?_
          refine wpo_indexE es_54 rfl rfl ha548 ho549 (by omega) (by omega) rfl ?_
          exact wpo_nil ⟨rfl, hi593⟩
         refine yll_cons rfl (fun w595 hi596 => ?_) ?_
         ·
          have hb597 := low0 hb328 hi596
          refine wpo_run rfl rfl rfl h347 ?_
          refine wpo_fieldAddr (o' := o547) fo_45_0 rfl rfl rfl ?_
          exact wpo_nil ⟨rfl, hi596⟩
         refine yll_cons rfl (fun w598 hi599 => ?_) ?_
         ·
          have hb600 := low0 hb328 hi599
          refine wpo_run rfl rfl rfl h347 ?_
          refine wpo_load1 (v := .int .i64 ((mAt ms ((((rAt (mAt ms ((q.run - 1).toNat)).t.slots ((q.a).toNat)).th) - 1).toNat)).t.kind)) ot_3 rfl ((range_low hr550 hi599) 0 _ rfl) rfl ?_
          exact wpo_nil ⟨rfl, hi599⟩
         exact yll_nil
        ·
         intro w601 hi602
         have hb603 := low0 hb328 hi602
         refine wpo_run rfl rfl rfl h347 ?_
         refine wpo_call (vs := [.int .i64 q.kind, .int .i64 ((mAt ms ((((rAt (mAt ms ((q.run - 1).toNat)).t.slots ((q.a).toNat)).th) - 1).toNat)).t.kind)]) gf_118 (args_cons rfl (args_cons rfl args_nil)) rfl (l11Kind_c q.kind ((mAt ms ((((rAt (mAt ms ((q.run - 1).toNat)).t.slots ((q.a).toNat)).th) - 1).toNat)).t.kind) _) ?_
         rintro _ w604 ⟨rfl, hg605⟩
         have hb606 := low0 hb603 hg605
         refine wpo_run rfl rfl rfl h347 ?_
         refine wpo_not (b' := !kindFor q.kind ((mAt ms ((((rAt (mAt ms ((q.run - 1).toNat)).t.slots ((q.a).toNat)).th) - 1).toNat)).t.kind)) rfl rfl rfl ?_
         refine wpo_pickf (v := .bool (!kindFor q.kind ((mAt ms ((((rAt (mAt ms ((q.run - 1).toNat)).t.slots ((q.a).toNat)).th) - 1).toNat)).t.kind))) rfl h347 rfl rfl ?_
         refine wpo_move (v := .bool (!kindFor q.kind ((mAt ms ((((rAt (mAt ms ((q.run - 1).toNat)).t.slots ((q.a).toNat)).th) - 1).toNat)).t.kind))) rfl rfl ?_
         refine wpo_run rfl rfl rfl h410 ?_
         refine wpo_move (v := .slice (some ⟨B323, 0, none⟩) 4 4) rfl rfl ?_
         refine wpo_run rfl rfl rfl h410 ?_
         refine wpo_indexAddr (o' := 0) es_145 rfl rfl (by omega) (by omega) rfl rfl ?_
         refine wpo_run rfl rfl rfl h410 ?_
         have k607 := ((k325.grown0 hi602).grown0 hg605)
         refine wpo_load1 (v := .bool (need0 q.kind)) ot_4 rfl (k607.cell rfl) rfl ?_
         refine wpo_run rfl rfl rfl h410 ?_
         refine wpo_move (v := .bool (need0 q.kind)) rfl rfl ?_
         refine wpo_run rfl rfl rfl h506 ?_
         refine wpo_fieldAddr (o' := 2) fo_29_2 e318 rfl rfl ?_
         refine wpo_run rfl rfl rfl h506 ?_
         have k608 := (((hS320.blk.grown0 hg326).grown0 hi602).grown0 hg605)
         refine wpo_load1 (v := .bool ((rAt (mAt ms ((q.run - 1).toNat)).t.slots ((q.a).toNat)).rd)) ot_4 rfl (k608.cell rfl) rfl ?_
         refine wpo_run rfl rfl rfl h506 ?_
         refine wpo_not (b' := !(rAt (mAt ms ((q.run - 1).toNat)).t.slots ((q.a).toNat)).rd) rfl rfl rfl ?_
         refine wpo_run rfl rfl rfl h410 ?_
         refine wpo_pickt (v := .bool (!(rAt (mAt ms ((q.run - 1).toNat)).t.slots ((q.a).toNat)).rd)) rfl h506 rfl rfl ?_
         refine wpo_pickf (v := .bool (!(rAt (mAt ms ((q.run - 1).toNat)).t.slots ((q.a).toNat)).rd)) rfl h410 rfl rfl ?_
         refine wpo_move (v := .bool (!(rAt (mAt ms ((q.run - 1).toNat)).t.slots ((q.a).toNat)).rd)) rfl rfl ?_
         iterate 4 refine wpo_pass rfl rfl rfl h523 rfl ?_
         iterate 3 refine wpo_passu rfl rfl rfl rfl ?_
         refine wpo_pass rfl rfl rfl h523 rfl ?_
         refine wpo_pickt (v := .bool true) rfl h523 rfl rfl ?_
         exact wpo_nil (thn_n ⟨⟨e303, e304, e305, e318, rfl, (congrArg Value.bool (by first | (simp only [h105, h347, h410, h490, h506, h523, h524, hT, b0, b1, b2, b3, b4, b5, b6, b7, b8, b9]; done) | simp [h105, h347, h410, h490, h506, h523, h524, hT]))⟩, (grown_trans hi602 hg605)⟩)
       ·
        have h609 := nt_f h523
        rcases bcases (need1 q.kind) with h626 | h626
        ·
         obtain ⟨b647, q648, o649, ha650, ho651, hr652⟩ := SlAt.at (TabAt.low ht hb328).1 (map_get (mAt_get (show (((rAt (mAt ms ((q.run - 1).toNat)).t.slots ((q.a).toNat)).th) - 1).toNat < ms.length by omega)))
         have hle653 := TabLen.at hlen (mAt_get (show (((rAt (mAt ms ((q.run - 1).toNat)).t.slots ((q.a).toNat)).th) - 1).toNat < ms.length by omega))
         refine wpf_draw (m := 13) (vals := [(25, .pointer (some ⟨B180, 0, none⟩)), (26, .int .i64 ((rAt (mAt ms ((q.run - 1).toNat)).t.slots ((q.a).toNat)).th)), (27, .bool (decide ((rAt (mAt ms ((q.run - 1).toNat)).t.slots ((q.a).toNat)).th = 0))), (28, .bool (decide ((rAt (mAt ms ((q.run - 1).toNat)).t.slots ((q.a).toNat)).th = 0))), (29, .pointer (some ⟨B101, 0, none⟩)), (30, .int .i64 q.kind), (31, .slice a ms.length c), (32, .pointer (some ⟨B180, 0, none⟩)), (33, .int .i64 ((rAt (mAt ms ((q.run - 1).toNat)).t.slots ((q.a).toNat)).th)), (34, .int .i64 (((rAt (mAt ms ((q.run - 1).toNat)).t.slots ((q.a).toNat)).th) - 1)), (35, .pointer (some ⟨b647, o649, none⟩)), (36, .pointer (some ⟨b647, o649, none⟩)), (37, .int .i64 ((mAt ms ((((rAt (mAt ms ((q.run - 1).toNat)).t.slots ((q.a).toNat)).th) - 1).toNat)).t.kind))]) (fun w' => w327.grownBy w' none) mixed_ (by kernel_rfl) (grown_drew _) ?_ ?_
         ·
          refine yll_cons rfl (fun w661 hi662 => ?_) ?_
          ·
           have hb663 := low0 hb328 hi662
           refine wpo_fieldAddr (o' := 0) fo_29_0 e318 rfl rfl ?_
           exact wpo_nil ⟨rfl, hi662⟩
          refine yll_cons rfl (fun w664 hi665 => ?_) ?_
          ·
           have hb666 := low0 hb328 hi665
           have k667 := ((hS320.blk.grown0 hg326).grown0 hi665)
           refine wpo_load1 (v := .int .i64 ((rAt (mAt ms ((q.run - 1).toNat)).t.slots ((q.a).toNat)).th)) ot_3 rfl (k667.cell rfl) rfl ?_
           exact wpo_nil ⟨rfl, hi665⟩
          refine yll_cons rfl (fun w668 hi669 => ?_) ?_
          ·
           have hb670 := low0 hb328 hi669
           refine wpo_eql (q := decide ((rAt (mAt ms ((q.run - 1).toNat)).t.slots ((q.a).toNat)).th = 0)) rfl rfl rfl rfl ?_
           exact wpo_nil ⟨rfl, hi669⟩
          refine yll_cons rfl (fun w671 hi672 => ?_) ?_
          ·
           have hb673 := low0 hb328 hi672
           refine wpo_move (v := .bool (decide ((rAt (mAt ms ((q.run - 1).toNat)).t.slots ((q.a).toNat)).th = 0))) rfl rfl ?_
           exact wpo_nil ⟨rfl, hi672⟩
          refine yll_cons rfl (fun w674 hi675 => ?_) ?_
          ·
           have hb676 := low0 hb328 hi675
           refine wpo_run rfl rfl rfl h347 ?_
           refine wpo_fieldAddr (o' := 0) fo_76_0 e304 rfl rfl ?_
           exact wpo_nil ⟨rfl, hi675⟩
          refine yll_cons rfl (fun w677 hi678 => ?_) ?_
          ·
           have hb679 := low0 hb328 hi678
           refine wpo_run rfl rfl rfl h347 ?_
           have k680 := ((k322.grown0 hg326).grown0 hi678)
           refine wpo_load1 (v := .int .i64 q.kind) ot_3 rfl (k680.cell rfl) rfl ?_
           exact wpo_nil ⟨rfl, hi678⟩
          refine yll_cons rfl (fun w681 hi682 => ?_) ?_
          ·
           have hb683 := low0 hb328 hi682
           refine wpo_run rfl rfl rfl h347 ?_
           refine wpo_move (v := .slice a ms.length c) e303 rfl ?_
           exact wpo_nil ⟨rfl, hi682⟩
          refine yll_cons rfl (fun w684 hi685 => ?_) ?_
          ·
           have hb686 := low0 hb328 hi685
           refine wpo_run rfl rfl rfl h347 ?_
           refine wpo_fieldAddr (o' := 0) fo_29_0 e318 rfl rfl ?_
           exact wpo_nil ⟨rfl, hi685⟩
          refine yll_cons rfl (fun w687 hi688 => ?_) ?_
          ·
           have hb689 := low0 hb328 hi688
           refine wpo_run rfl rfl rfl h347 ?_
           have k690 := ((hS320.blk.grown0 hg326).grown0 hi688)
           refine wpo_load1 (v := .int .i64 ((rAt (mAt ms ((q.run - 1).toNat)).t.slots ((q.a).toNat)).th)) ot_3 rfl (k690.cell rfl) rfl ?_
           exact wpo_nil ⟨rfl, hi688⟩
          refine yll_cons rfl (fun w691 hi692 => ?_) ?_
          ·
           have hb693 := low0 hb328 hi692
           refine wpo_run rfl rfl rfl h347 ?_
           refine wpo_sub (c := ((rAt (mAt ms ((q.run - 1).toNat)).t.slots ((q.a).toNat)).th) - 1) rfl rfl (by omega) (by omega) (by omega) rfl ?_
           exact wpo_nil ⟨rfl, hi692⟩
          refine yll_cons rfl (fun w694 hi695 => ?_) ?_
          ·
           have hb696 := low0 hb328 hi695
           refine wpo_run rfl rfl rfl h347 ?_
           refine wpo_indexE es_54 rfl rfl ha650 ho651 (by omega) (by omega) rfl ?_
           exact wpo_nil ⟨rfl, hi695⟩
          refine yll_cons rfl (fun w697 hi698 => ?_) ?_
          ·
           have hb699 := low0 hb328 hi698
           refine wpo_run rfl rfl rfl h347 ?_
           refine wpo_fieldAddr (o' := o649) fo_45_0 rfl rfl rfl ?_
           exact wpo_nil ⟨rfl, hi698⟩
          refine yll_cons rfl (fun w700 hi701 => ?_) ?_
          ·
           have hb702 := low0 hb328 hi701
           refine wpo_run rfl rfl rfl h347 ?_
           refine wpo_load1 (v := .int .i64 ((mAt ms ((((rAt (mAt ms ((q.run - 1).toNat)).t.slots ((q.a).toNat)).th) - 1).toNat)).t.kind)) ot_3 rfl ((range_low hr652 hi701) 0 _ rfl) rfl ?_
           exact wpo_nil ⟨rfl, hi701⟩
          exact yll_nil
         ·
          intro w703 hi704
          have hb705 := low0 hb328 hi704
          refine wpo_run rfl rfl rfl h347 ?_
          refine wpo_call (vs := [.int .i64 q.kind, .int .i64 ((mAt ms ((((rAt (mAt ms ((q.run - 1).toNat)).t.slots ((q.a).toNat)).th) - 1).toNat)).t.kind)]) gf_118 (args_cons rfl (args_cons rfl args_nil)) rfl (l11Kind_c q.kind ((mAt ms ((((rAt (mAt ms ((q.run - 1).toNat)).t.slots ((q.a).toNat)).th) - 1).toNat)).t.kind) _) ?_
          rintro _ w706 ⟨rfl, hg707⟩
          have hb708 := low0 hb705 hg707
          refine wpo_run rfl rfl rfl h347 ?_
          refine wpo_not (b' := !kindFor q.kind ((mAt ms ((((rAt (mAt ms ((q.run - 1).toNat)).t.slots ((q.a).toNat)).th) - 1).toNat)).t.kind)) rfl rfl rfl ?_
          refine wpo_pickf (v := .bool (!kindFor q.kind ((mAt ms ((((rAt (mAt ms ((q.run - 1).toNat)).t.slots ((q.a).toNat)).th) - 1).toNat)).t.kind))) rfl h347 rfl rfl ?_
          refine wpo_move (v := .bool (!kindFor q.kind ((mAt ms ((((rAt (mAt ms ((q.run - 1).toNat)).t.slots ((q.a).toNat)).th) - 1).toNat)).t.kind))) rfl rfl ?_
          refine wpo_run rfl rfl rfl h410 ?_
          refine wpo_move (v := .slice (some ⟨B323, 0, none⟩) 4 4) rfl rfl ?_
          refine wpo_run rfl rfl rfl h410 ?_
          refine wpo_indexAddr (o' := 0) es_145 rfl rfl (by omega) (by omega) rfl rfl ?_
          refine wpo_run rfl rfl rfl h410 ?_
          have k709 := ((k325.grown0 hi704).grown0 hg707)
          refine wpo_load1 (v := .bool (need0 q.kind)) ot_4 rfl (k709.cell rfl) rfl ?_
          refine wpo_run rfl rfl rfl h410 ?_
          refine wpo_move (v := .bool (need0 q.kind)) rfl rfl ?_
          refine wpo_run rfl rfl rfl h506 ?_
          refine wpo_fieldAddr (o' := 2) fo_29_2 e318 rfl rfl ?_
          refine wpo_run rfl rfl rfl h506 ?_
          have k710 := (((hS320.blk.grown0 hg326).grown0 hi704).grown0 hg707)
          refine wpo_load1 (v := .bool ((rAt (mAt ms ((q.run - 1).toNat)).t.slots ((q.a).toNat)).rd)) ot_4 rfl (k710.cell rfl) rfl ?_
          refine wpo_run rfl rfl rfl h506 ?_
          refine wpo_not (b' := !(rAt (mAt ms ((q.run - 1).toNat)).t.slots ((q.a).toNat)).rd) rfl rfl rfl ?_
          refine wpo_run rfl rfl rfl h410 ?_
          refine wpo_pickt (v := .bool (!(rAt (mAt ms ((q.run - 1).toNat)).t.slots ((q.a).toNat)).rd)) rfl h506 rfl rfl ?_
          refine wpo_pickf (v := .bool (!(rAt (mAt ms ((q.run - 1).toNat)).t.slots ((q.a).toNat)).rd)) rfl h410 rfl rfl ?_
          refine wpo_move (v := .bool (!(rAt (mAt ms ((q.run - 1).toNat)).t.slots ((q.a).toNat)).rd)) rfl rfl ?_
          refine wpo_run rfl rfl rfl h523 ?_
          refine wpo_move (v := .slice (some ⟨B323, 0, none⟩) 4 4) rfl rfl ?_
          refine wpo_run rfl rfl rfl h523 ?_
          refine wpo_indexAddr (o' := 1) es_145 rfl rfl (by omega) (by omega) rfl rfl ?_
          refine wpo_run rfl rfl rfl h523 ?_
          refine wpo_load1 (v := .bool (need1 q.kind)) ot_4 rfl (k709.cell rfl) rfl ?_
          refine wpo_run rfl rfl rfl h523 ?_
          refine wpo_move (v := .bool (need1 q.kind)) rfl rfl ?_
          refine wpo_run rfl rfl rfl h626 ?_
          refine wpo_fieldAddr (o' := 3) fo_29_3 e318 rfl rfl ?_
          refine wpo_run rfl rfl rfl h626 ?_
          refine wpo_load1 (v := .bool ((rAt (mAt ms ((q.run - 1).toNat)).t.slots ((q.a).toNat)).wr)) ot_4 rfl (k710.cell rfl) rfl ?_
          refine wpo_run rfl rfl rfl h626 ?_
          refine wpo_not (b' := !(rAt (mAt ms ((q.run - 1).toNat)).t.slots ((q.a).toNat)).wr) rfl rfl rfl ?_
          refine wpo_run rfl rfl rfl h523 ?_
          refine wpo_pickt (v := .bool (!(rAt (mAt ms ((q.run - 1).toNat)).t.slots ((q.a).toNat)).wr)) rfl h626 rfl rfl ?_
          refine wpo_pickf (v := .bool (!(rAt (mAt ms ((q.run - 1).toNat)).t.slots ((q.a).toNat)).wr)) rfl h523 rfl rfl ?_
          exact wpo_nil (thn_n ⟨⟨e303, e304, e305, e318, rfl, (congrArg Value.bool (by first | (simp only [h105, h347, h410, h490, h506, h523, h609, h626, hT, b0, b1, b2, b3, b4, b5, b6, b7, b8, b9]; done) | simp [h105, h347, h410, h490, h506, h523, h609, h626, hT]))⟩, (grown_trans hi704 hg707)⟩)
        ·
         obtain ⟨b731, q732, o733, ha734, ho735, hr736⟩ := SlAt.at (TabAt.low ht hb328).1 (map_get (mAt_get (show (((rAt (mAt ms ((q.run - 1).toNat)).t.slots ((q.a).toNat)).th) - 1).toNat < ms.length by omega)))
         have hle737 := TabLen.at hlen (mAt_get (show (((rAt (mAt ms ((q.run - 1).toNat)).t.slots ((q.a).toNat)).th) - 1).toNat < ms.length by omega))
         refine wpf_draw (m := 13) (vals := [(25, .pointer (some ⟨B180, 0, none⟩)), (26, .int .i64 ((rAt (mAt ms ((q.run - 1).toNat)).t.slots ((q.a).toNat)).th)), (27, .bool (decide ((rAt (mAt ms ((q.run - 1).toNat)).t.slots ((q.a).toNat)).th = 0))), (28, .bool (decide ((rAt (mAt ms ((q.run - 1).toNat)).t.slots ((q.a).toNat)).th = 0))), (29, .pointer (some ⟨B101, 0, none⟩)), (30, .int .i64 q.kind), (31, .slice a ms.length c), (32, .pointer (some ⟨B180, 0, none⟩)), (33, .int .i64 ((rAt (mAt ms ((q.run - 1).toNat)).t.slots ((q.a).toNat)).th)), (34, .int .i64 (((rAt (mAt ms ((q.run - 1).toNat)).t.slots ((q.a).toNat)).th) - 1)), (35, .pointer (some ⟨b731, o733, none⟩)), (36, .pointer (some ⟨b731, o733, none⟩)), (37, .int .i64 ((mAt ms ((((rAt (mAt ms ((q.run - 1).toNat)).t.slots ((q.a).toNat)).th) - 1).toNat)).t.kind))]) (fun w' => w327.grownBy w' none) mixed_ (by kernel_rfl) (grown_drew _) ?_ ?_
         ·
          refine yll_cons rfl (fun w745 hi746 => ?_) ?_
          ·
           have hb747 := low0 hb328 hi746
           refine wpo_fieldAddr (o' := 0) fo_29_0 e318 rfl rfl ?_
           exact wpo_nil ⟨rfl, hi746⟩
          refine yll_cons rfl (fun w748 hi749 => ?_) ?_
          ·
           have hb750 := low0 hb328 hi749
           have k751 := ((hS320.blk.grown0 hg326).grown0 hi749)
           refine wpo_load1 (v := .int .i64 ((rAt (mAt ms ((q.run - 1).toNat)).t.slots ((q.a).toNat)).th)) ot_3 rfl (k751.cell rfl) rfl ?_
           exact wpo_nil ⟨rfl, hi749⟩
          refine yll_cons rfl (fun w752 hi753 => ?_) ?_
          ·
           have hb754 := low0 hb328 hi753
           refine wpo_eql (q := decide ((rAt (mAt ms ((q.run - 1).toNat)).t.slots ((q.a).toNat)).th = 0)) rfl rfl rfl rfl ?_
           exact wpo_nil ⟨rfl, hi753⟩
          refine yll_cons rfl (fun w755 hi756 => ?_) ?_
          ·
           have hb757 := low0 hb328 hi756
           refine wpo_move (v := .bool (decide ((rAt (mAt ms ((q.run - 1).toNat)).t.slots ((q.a).toNat)).th = 0))) rfl rfl ?_
           exact wpo_nil ⟨rfl, hi756⟩
          refine yll_cons rfl (fun w758 hi759 => ?_) ?_
          ·
           have hb760 := low0 hb328 hi759
           refine wpo_run rfl rfl rfl h347 ?_
           refine wpo_fieldAddr (o' := 0) fo_76_0 e304 rfl rfl ?_
           exact wpo_nil ⟨rfl, hi759⟩
          refine yll_cons rfl (fun w761 hi762 => ?_) ?_
          ·
           have hb763 := low0 hb328 hi762
           refine wpo_run rfl rfl rfl h347 ?_
           have k764 := ((k322.grown0 hg326).grown0 hi762)
           refine wpo_load1 (v := .int .i64 q.kind) ot_3 rfl (k764.cell rfl) rfl ?_
           exact wpo_nil ⟨rfl, hi762⟩
          refine yll_cons rfl (fun w765 hi766 => ?_) ?_
          ·
           have hb767 := low0 hb328 hi766
           refine wpo_run rfl rfl rfl h347 ?_
           refine wpo_move (v := .slice a ms.length c) e303 rfl ?_
           exact wpo_nil ⟨rfl, hi766⟩
          refine yll_cons rfl (fun w768 hi769 => ?_) ?_
          ·
           have hb770 := low0 hb328 hi769
           refine wpo_run rfl rfl rfl h347 ?_
           refine wpo_fieldAddr (o' := 0) fo_29_0 e318 rfl rfl ?_
           exact wpo_nil ⟨rfl, hi769⟩
          refine yll_cons rfl (fun w771 hi772 => ?_) ?_
          ·
           have hb773 := low0 hb328 hi772
           refine wpo_run rfl rfl rfl h347 ?_
           have k774 := ((hS320.blk.grown0 hg326).grown0 hi772)
           refine wpo_load1 (v := .int .i64 ((rAt (mAt ms ((q.run - 1).toNat)).t.slots ((q.a).toNat)).th)) ot_3 rfl (k774.cell rfl) rfl ?_
           exact wpo_nil ⟨rfl, hi772⟩
          refine yll_cons rfl (fun w775 hi776 => ?_) ?_
          ·
           have hb777 := low0 hb328 hi776
           refine wpo_run rfl rfl rfl h347 ?_
           refine wpo_sub (c := ((rAt (mAt ms ((q.run - 1).toNat)).t.slots ((q.a).toNat)).th) - 1) rfl rfl (by omega) (by omega) (by omega) rfl ?_
           exact wpo_nil ⟨rfl, hi776⟩
          refine yll_cons rfl (fun w778 hi779 => ?_) ?_
          ·
           have hb780 := low0 hb328 hi779
           refine wpo_run rfl rfl rfl h347 ?_
           refine wpo_indexE es_54 rfl rfl ha734 ho735 (by omega) (by omega) rfl ?_
           exact wpo_nil ⟨rfl, hi779⟩
          refine yll_cons rfl (fun w781 hi782 => ?_) ?_
          ·
           have hb783 := low0 hb328 hi782
           refine wpo_run rfl rfl rfl h347 ?_
           refine wpo_fieldAddr (o' := o733) fo_45_0 rfl rfl rfl ?_
           exact wpo_nil ⟨rfl, hi782⟩
          refine yll_cons rfl (fun w784 hi785 => ?_) ?_
          ·
           have hb786 := low0 hb328 hi785
           refine wpo_run rfl rfl rfl h347 ?_
           refine wpo_load1 (v := .int .i64 ((mAt ms ((((rAt (mAt ms ((q.run - 1).toNat)).t.slots ((q.a).toNat)).th) - 1).toNat)).t.kind)) ot_3 rfl ((range_low hr736 hi785) 0 _ rfl) rfl ?_
           exact wpo_nil ⟨rfl, hi785⟩
          exact yll_nil
         ·
          intro w787 hi788
          have hb789 := low0 hb328 hi788
          refine wpo_run rfl rfl rfl h347 ?_
          refine wpo_call (vs := [.int .i64 q.kind, .int .i64 ((mAt ms ((((rAt (mAt ms ((q.run - 1).toNat)).t.slots ((q.a).toNat)).th) - 1).toNat)).t.kind)]) gf_118 (args_cons rfl (args_cons rfl args_nil)) rfl (l11Kind_c q.kind ((mAt ms ((((rAt (mAt ms ((q.run - 1).toNat)).t.slots ((q.a).toNat)).th) - 1).toNat)).t.kind) _) ?_
          rintro _ w790 ⟨rfl, hg791⟩
          have hb792 := low0 hb789 hg791
          refine wpo_run rfl rfl rfl h347 ?_
          refine wpo_not (b' := !kindFor q.kind ((mAt ms ((((rAt (mAt ms ((q.run - 1).toNat)).t.slots ((q.a).toNat)).th) - 1).toNat)).t.kind)) rfl rfl rfl ?_
          refine wpo_pickf (v := .bool (!kindFor q.kind ((mAt ms ((((rAt (mAt ms ((q.run - 1).toNat)).t.slots ((q.a).toNat)).th) - 1).toNat)).t.kind))) rfl h347 rfl rfl ?_
          refine wpo_move (v := .bool (!kindFor q.kind ((mAt ms ((((rAt (mAt ms ((q.run - 1).toNat)).t.slots ((q.a).toNat)).th) - 1).toNat)).t.kind))) rfl rfl ?_
          refine wpo_run rfl rfl rfl h410 ?_
          refine wpo_move (v := .slice (some ⟨B323, 0, none⟩) 4 4) rfl rfl ?_
          refine wpo_run rfl rfl rfl h410 ?_
          refine wpo_indexAddr (o' := 0) es_145 rfl rfl (by omega) (by omega) rfl rfl ?_
          refine wpo_run rfl rfl rfl h410 ?_
          have k793 := ((k325.grown0 hi788).grown0 hg791)
          refine wpo_load1 (v := .bool (need0 q.kind)) ot_4 rfl (k793.cell rfl) rfl ?_
          refine wpo_run rfl rfl rfl h410 ?_
          refine wpo_move (v := .bool (need0 q.kind)) rfl rfl ?_
          refine wpo_run rfl rfl rfl h506 ?_
          refine wpo_fieldAddr (o' := 2) fo_29_2 e318 rfl rfl ?_
          refine wpo_run rfl rfl rfl h506 ?_
          have k794 := (((hS320.blk.grown0 hg326).grown0 hi788).grown0 hg791)
          refine wpo_load1 (v := .bool ((rAt (mAt ms ((q.run - 1).toNat)).t.slots ((q.a).toNat)).rd)) ot_4 rfl (k794.cell rfl) rfl ?_
          refine wpo_run rfl rfl rfl h506 ?_
          refine wpo_not (b' := !(rAt (mAt ms ((q.run - 1).toNat)).t.slots ((q.a).toNat)).rd) rfl rfl rfl ?_
          refine wpo_run rfl rfl rfl h410 ?_
          refine wpo_pickt (v := .bool (!(rAt (mAt ms ((q.run - 1).toNat)).t.slots ((q.a).toNat)).rd)) rfl h506 rfl rfl ?_
          refine wpo_pickf (v := .bool (!(rAt (mAt ms ((q.run - 1).toNat)).t.slots ((q.a).toNat)).rd)) rfl h410 rfl rfl ?_
          refine wpo_move (v := .bool (!(rAt (mAt ms ((q.run - 1).toNat)).t.slots ((q.a).toNat)).rd)) rfl rfl ?_
          refine wpo_run rfl rfl rfl h523 ?_
          refine wpo_move (v := .slice (some ⟨B323, 0, none⟩) 4 4) rfl rfl ?_
          refine wpo_run rfl rfl rfl h523 ?_
          refine wpo_indexAddr (o' := 1) es_145 rfl rfl (by omega) (by omega) rfl rfl ?_
          refine wpo_run rfl rfl rfl h523 ?_
          refine wpo_load1 (v := .bool (need1 q.kind)) ot_4 rfl (k793.cell rfl) rfl ?_
          refine wpo_run rfl rfl rfl h523 ?_
          refine wpo_move (v := .bool (need1 q.kind)) rfl rfl ?_
          iterate 3 refine wpo_pass rfl rfl rfl h626 rfl ?_
          refine wpo_run rfl rfl rfl h523 ?_
          refine wpo_pickf (v := .bool false) rfl h626 rfl rfl ?_
          refine wpo_pickf (v := .bool false) rfl h523 rfl rfl ?_
          exact wpo_nil (thn_n ⟨⟨e303, e304, e305, e318, rfl, (congrArg Value.bool (by first | (simp only [h105, h347, h410, h490, h506, h523, h609, h626, hT, b0, b1, b2, b3, b4, b5, b6, b7, b8, b9]; done) | simp [h105, h347, h410, h490, h506, h523, h609, h626, hT]))⟩, (grown_trans hi788 hg791)⟩)
      ·
       rcases bcases (need1 q.kind) with h810 | h810
       ·
        obtain ⟨b831, q832, o833, ha834, ho835, hr836⟩ := SlAt.at (TabAt.low ht hb328).1 (map_get (mAt_get (show (((rAt (mAt ms ((q.run - 1).toNat)).t.slots ((q.a).toNat)).th) - 1).toNat < ms.length by omega)))
        have hle837 := TabLen.at hlen (mAt_get (show (((rAt (mAt ms ((q.run - 1).toNat)).t.slots ((q.a).toNat)).th) - 1).toNat < ms.length by omega))
        refine wpf_draw (m := 13) (vals := [(25, .pointer (some ⟨B180, 0, none⟩)), (26, .int .i64 ((rAt (mAt ms ((q.run - 1).toNat)).t.slots ((q.a).toNat)).th)), (27, .bool (decide ((rAt (mAt ms ((q.run - 1).toNat)).t.slots ((q.a).toNat)).th = 0))), (28, .bool (decide ((rAt (mAt ms ((q.run - 1).toNat)).t.slots ((q.a).toNat)).th = 0))), (29, .pointer (some ⟨B101, 0, none⟩)), (30, .int .i64 q.kind), (31, .slice a ms.length c), (32, .pointer (some ⟨B180, 0, none⟩)), (33, .int .i64 ((rAt (mAt ms ((q.run - 1).toNat)).t.slots ((q.a).toNat)).th)), (34, .int .i64 (((rAt (mAt ms ((q.run - 1).toNat)).t.slots ((q.a).toNat)).th) - 1)), (35, .pointer (some ⟨b831, o833, none⟩)), (36, .pointer (some ⟨b831, o833, none⟩)), (37, .int .i64 ((mAt ms ((((rAt (mAt ms ((q.run - 1).toNat)).t.slots ((q.a).toNat)).th) - 1).toNat)).t.kind))]) (fun w' => w327.grownBy w' none) mixed_ (by kernel_rfl) (grown_drew _) ?_ ?_
        ·
         refine yll_cons rfl (fun w845 hi846 => ?_) ?_
         ·
          have hb847 := low0 hb328 hi846
          refine wpo_fieldAddr (o' := 0) fo_29_0 e318 rfl rfl ?_
          exact wpo_nil ⟨rfl, hi846⟩
         refine yll_cons rfl (fun w848 hi849 => ?_) ?_
         ·
          have hb850 := low0 hb328 hi849
          have k851 := ((hS320.blk.grown0 hg326).grown0 hi849)
          refine wpo_load1 (v := .int .i64 ((rAt (mAt ms ((q.run - 1).toNat)).t.slots ((q.a).toNat)).th)) ot_3 rfl (k851.cell rfl) rfl ?_
          exact wpo_nil ⟨rfl, hi849⟩
         refine yll_cons rfl (fun w852 hi853 => ?_) ?_
         ·
          have hb854 := low0 hb328 hi853
          refine wpo_eql (q := decide ((rAt (mAt ms ((q.run - 1).toNat)).t.slots ((q.a).toNat)).th = 0)) rfl rfl rfl rfl ?_
          exact wpo_nil ⟨rfl, hi853⟩
         refine yll_cons rfl (fun w855 hi856 => ?_) ?_
         ·
          have hb857 := low0 hb328 hi856
          refine wpo_move (v := .bool (decide ((rAt (mAt ms ((q.run - 1).toNat)).t.slots ((q.a).toNat)).th = 0))) rfl rfl ?_
          exact wpo_nil ⟨rfl, hi856⟩
         refine yll_cons rfl (fun w858 hi859 => ?_) ?_
         ·
          have hb860 := low0 hb328 hi859
          refine wpo_run rfl rfl rfl h347 ?_
          refine wpo_fieldAddr (o' := 0) fo_76_0 e304 rfl rfl ?_
          exact wpo_nil ⟨rfl, hi859⟩
         refine yll_cons rfl (fun w861 hi862 => ?_) ?_
         ·
          have hb863 := low0 hb328 hi862
          refine wpo_run rfl rfl rfl h347 ?_
          have k864 := ((k322.grown0 hg326).grown0 hi862)
          refine wpo_load1 (v := .int .i64 q.kind) ot_3 rfl (k864.cell rfl) rfl ?_
          exact wpo_nil ⟨rfl, hi862⟩
         refine yll_cons rfl (fun w865 hi866 => ?_) ?_
         ·
          have hb867 := low0 hb328 hi866
          refine wpo_run rfl rfl rfl h347 ?_
          refine wpo_move (v := .slice a ms.length c) e303 rfl ?_
          exact wpo_nil ⟨rfl, hi866⟩
         refine yll_cons rfl (fun w868 hi869 => ?_) ?_
         ·
          have hb870 := low0 hb328 hi869
          refine wpo_run rfl rfl rfl h347 ?_
          refine wpo_fieldAddr (o' := 0) fo_29_0 e318 rfl rfl ?_
          exact wpo_nil ⟨rfl, hi869⟩
         refine yll_cons rfl (fun w871 hi872 => ?_) ?_
         ·
          have hb873 := low0 hb328 hi872
          refine wpo_run rfl rfl rfl h347 ?_
          have k874 := ((hS320.blk.grown0 hg326).grown0 hi872)
          refine wpo_load1 (v := .int .i64 ((rAt (mAt ms ((q.run - 1).toNat)).t.slots ((q.a).toNat)).th)) ot_3 rfl (k874.cell rfl) rfl ?_
          exact wpo_nil ⟨rfl, hi872⟩
         refine yll_cons rfl (fun w875 hi876 => ?_) ?_
         ·
          have hb877 := low0 hb328 hi876
          refine wpo_run rfl rfl rfl h347 ?_
          refine wpo_sub (c := ((rAt (mAt ms ((q.run - 1).toNat)).t.slots ((q.a).toNat)).th) - 1) rfl rfl (by omega) (by omega) (by omega) rfl ?_
          exact wpo_nil ⟨rfl, hi876⟩
         refine yll_cons rfl (fun w878 hi879 => ?_) ?_
         ·
          have hb880 := low0 hb328 hi879
          refine wpo_run rfl rfl rfl h347 ?_
          refine wpo_indexE es_54 rfl rfl ha834 ho835 (by omega) (by omega) rfl ?_
          exact wpo_nil ⟨rfl, hi879⟩
         refine yll_cons rfl (fun w881 hi882 => ?_) ?_
         ·
          have hb883 := low0 hb328 hi882
          refine wpo_run rfl rfl rfl h347 ?_
          refine wpo_fieldAddr (o' := o833) fo_45_0 rfl rfl rfl ?_
          exact wpo_nil ⟨rfl, hi882⟩
         refine yll_cons rfl (fun w884 hi885 => ?_) ?_
         ·
          have hb886 := low0 hb328 hi885
          refine wpo_run rfl rfl rfl h347 ?_
          refine wpo_load1 (v := .int .i64 ((mAt ms ((((rAt (mAt ms ((q.run - 1).toNat)).t.slots ((q.a).toNat)).th) - 1).toNat)).t.kind)) ot_3 rfl ((range_low hr836 hi885) 0 _ rfl) rfl ?_
          exact wpo_nil ⟨rfl, hi885⟩
         exact yll_nil
        ·
         intro w887 hi888
         have hb889 := low0 hb328 hi888
         refine wpo_run rfl rfl rfl h347 ?_
         refine wpo_call (vs := [.int .i64 q.kind, .int .i64 ((mAt ms ((((rAt (mAt ms ((q.run - 1).toNat)).t.slots ((q.a).toNat)).th) - 1).toNat)).t.kind)]) gf_118 (args_cons rfl (args_cons rfl args_nil)) rfl (l11Kind_c q.kind ((mAt ms ((((rAt (mAt ms ((q.run - 1).toNat)).t.slots ((q.a).toNat)).th) - 1).toNat)).t.kind) _) ?_
         rintro _ w890 ⟨rfl, hg891⟩
         have hb892 := low0 hb889 hg891
         refine wpo_run rfl rfl rfl h347 ?_
         refine wpo_not (b' := !kindFor q.kind ((mAt ms ((((rAt (mAt ms ((q.run - 1).toNat)).t.slots ((q.a).toNat)).th) - 1).toNat)).t.kind)) rfl rfl rfl ?_
         refine wpo_pickf (v := .bool (!kindFor q.kind ((mAt ms ((((rAt (mAt ms ((q.run - 1).toNat)).t.slots ((q.a).toNat)).th) - 1).toNat)).t.kind))) rfl h347 rfl rfl ?_
         refine wpo_move (v := .bool (!kindFor q.kind ((mAt ms ((((rAt (mAt ms ((q.run - 1).toNat)).t.slots ((q.a).toNat)).th) - 1).toNat)).t.kind))) rfl rfl ?_
         refine wpo_run rfl rfl rfl h410 ?_
         refine wpo_move (v := .slice (some ⟨B323, 0, none⟩) 4 4) rfl rfl ?_
         refine wpo_run rfl rfl rfl h410 ?_
         refine wpo_indexAddr (o' := 0) es_145 rfl rfl (by omega) (by omega) rfl rfl ?_
         refine wpo_run rfl rfl rfl h410 ?_
         have k893 := ((k325.grown0 hi888).grown0 hg891)
         refine wpo_load1 (v := .bool (need0 q.kind)) ot_4 rfl (k893.cell rfl) rfl ?_
         refine wpo_run rfl rfl rfl h410 ?_
         refine wpo_move (v := .bool (need0 q.kind)) rfl rfl ?_
         iterate 3 refine wpo_pass rfl rfl rfl h506 rfl ?_
         refine wpo_run rfl rfl rfl h410 ?_
         refine wpo_pickf (v := .bool false) rfl h506 rfl rfl ?_
         refine wpo_pickf (v := .bool false) rfl h410 rfl rfl ?_
         refine wpo_move (v := .bool false) rfl rfl ?_
         refine wpo_run rfl rfl rfl rfl ?_
         refine wpo_move (v := .slice (some ⟨B323, 0, none⟩) 4 4) rfl rfl ?_
         refine wpo_run rfl rfl rfl rfl ?_
         refine wpo_indexAddr (o' := 1) es_145 rfl rfl (by omega) (by omega) rfl rfl ?_
         refine wpo_run rfl rfl rfl rfl ?_
         refine wpo_load1 (v := .bool (need1 q.kind)) ot_4 rfl (k893.cell rfl) rfl ?_
         refine wpo_run rfl rfl rfl rfl ?_
         refine wpo_move (v := .bool (need1 q.kind)) rfl rfl ?_
         refine wpo_run rfl rfl rfl h810 ?_
         refine wpo_fieldAddr (o' := 3) fo_29_3 e318 rfl rfl ?_
         refine wpo_run rfl rfl rfl h810 ?_
         have k894 := (((hS320.blk.grown0 hg326).grown0 hi888).grown0 hg891)
         refine wpo_load1 (v := .bool ((rAt (mAt ms ((q.run - 1).toNat)).t.slots ((q.a).toNat)).wr)) ot_4 rfl (k894.cell rfl) rfl ?_
         refine wpo_run rfl rfl rfl h810 ?_
         refine wpo_not (b' := !(rAt (mAt ms ((q.run - 1).toNat)).t.slots ((q.a).toNat)).wr) rfl rfl rfl ?_
         refine wpo_run rfl rfl rfl rfl ?_
         refine wpo_pickt (v := .bool (!(rAt (mAt ms ((q.run - 1).toNat)).t.slots ((q.a).toNat)).wr)) rfl h810 rfl rfl ?_
         refine wpo_pickf (v := .bool (!(rAt (mAt ms ((q.run - 1).toNat)).t.slots ((q.a).toNat)).wr)) rfl rfl rfl rfl ?_
         exact wpo_nil (thn_n ⟨⟨e303, e304, e305, e318, rfl, (congrArg Value.bool (by first | (simp only [h105, h347, h410, h490, h506, h810, hT, b0, b1, b2, b3, b4, b5, b6, b7, b8, b9]; done) | simp [h105, h347, h410, h490, h506, h810, hT]))⟩, (grown_trans hi888 hg891)⟩)
       ·
        obtain ⟨b914, q915, o916, ha917, ho918, hr919⟩ := SlAt.at (TabAt.low ht hb328).1 (map_get (mAt_get (show (((rAt (mAt ms ((q.run - 1).toNat)).t.slots ((q.a).toNat)).th) - 1).toNat < ms.length by omega)))
        have hle920 := TabLen.at hlen (mAt_get (show (((rAt (mAt ms ((q.run - 1).toNat)).t.slots ((q.a).toNat)).th) - 1).toNat < ms.length by omega))
        refine wpf_draw (m := 13) (vals := [(25, .pointer (some ⟨B180, 0, none⟩)), (26, .int .i64 ((rAt (mAt ms ((q.run - 1).toNat)).t.slots ((q.a).toNat)).th)), (27, .bool (decide ((rAt (mAt ms ((q.run - 1).toNat)).t.slots ((q.a).toNat)).th = 0))), (28, .bool (decide ((rAt (mAt ms ((q.run - 1).toNat)).t.slots ((q.a).toNat)).th = 0))), (29, .pointer (some ⟨B101, 0, none⟩)), (30, .int .i64 q.kind), (31, .slice a ms.length c), (32, .pointer (some ⟨B180, 0, none⟩)), (33, .int .i64 ((rAt (mAt ms ((q.run - 1).toNat)).t.slots ((q.a).toNat)).th)), (34, .int .i64 (((rAt (mAt ms ((q.run - 1).toNat)).t.slots ((q.a).toNat)).th) - 1)), (35, .pointer (some ⟨b914, o916, none⟩)), (36, .pointer (some ⟨b914, o916, none⟩)), (37, .int .i64 ((mAt ms ((((rAt (mAt ms ((q.run - 1).toNat)).t.slots ((q.a).toNat)).th) - 1).toNat)).t.kind))]) (fun w' => w327.grownBy w' none) mixed_ (by kernel_rfl) (grown_drew _) ?_ ?_
        ·
         refine yll_cons rfl (fun w927 hi928 => ?_) ?_
         ·
          have hb929 := low0 hb328 hi928
          refine wpo_fieldAddr (o' := 0) fo_29_0 e318 rfl rfl ?_
          exact wpo_nil ⟨rfl, hi928⟩
         refine yll_cons rfl (fun w930 hi931 => ?_) ?_
         ·
          have hb932 := low0 hb328 hi931
          have k933 := ((hS320.blk.grown0 hg326).grown0 hi931)
          refine wpo_load1 (v := .int .i64 ((rAt (mAt ms ((q.run - 1).toNat)).t.slots ((q.a).toNat)).th)) ot_3 rfl (k933.cell rfl) rfl ?_
          exact wpo_nil ⟨rfl, hi931⟩
         refine yll_cons rfl (fun w934 hi935 => ?_) ?_
         ·
          have hb936 := low0 hb328 hi935
          refine wpo_eql (q := decide ((rAt (mAt ms ((q.run - 1).toNat)).t.slots ((q.a).toNat)).th = 0)) rfl rfl rfl rfl ?_
          exact wpo_nil ⟨rfl, hi935⟩
         refine yll_cons rfl (fun w937 hi938 => ?_) ?_
         ·
          have hb939 := low0 hb328 hi938
          refine wpo_move (v := .bool (decide ((rAt (mAt ms ((q.run - 1).toNat)).t.slots ((q.a).toNat)).th = 0))) rfl rfl ?_
          exact wpo_nil ⟨rfl, hi938⟩
         refine yll_cons rfl (fun w940 hi941 => ?_) ?_
         ·
          have hb942 := low0 hb328 hi941
          refine wpo_run rfl rfl rfl h347 ?_
          refine wpo_fieldAddr (o' := 0) fo_76_0 e304 rfl rfl ?_
          exact wpo_nil ⟨rfl, hi941⟩
         refine yll_cons rfl (fun w943 hi944 => ?_) ?_
         ·
          have hb945 := low0 hb328 hi944
          refine wpo_run rfl rfl rfl h347 ?_
          have k946 := ((k322.grown0 hg326).grown0 hi944)
          refine wpo_load1 (v := .int .i64 q.kind) ot_3 rfl (k946.cell rfl) rfl ?_
          exact wpo_nil ⟨rfl, hi944⟩
         refine yll_cons rfl (fun w947 hi948 => ?_) ?_
         ·
          have hb949 := low0 hb328 hi948
          refine wpo_run rfl rfl rfl h347 ?_
          refine wpo_move (v := .slice a ms.length c) e303 rfl ?_
          exact wpo_nil ⟨rfl, hi948⟩
         refine yll_cons rfl (fun w950 hi951 => ?_) ?_
         ·
          have hb952 := low0 hb328 hi951
          refine wpo_run rfl rfl rfl h347 ?_
          refine wpo_fieldAddr (o' := 0) fo_29_0 e318 rfl rfl ?_
          exact wpo_nil ⟨rfl, hi951⟩
         refine yll_cons rfl (fun w953 hi954 => ?_) ?_
         ·
          have hb955 := low0 hb328 hi954
          refine wpo_run rfl rfl rfl h347 ?_
          have k956 := ((hS320.blk.grown0 hg326).grown0 hi954)
          refine wpo_load1 (v := .int .i64 ((rAt (mAt ms ((q.run - 1).toNat)).t.slots ((q.a).toNat)).th)) ot_3 rfl (k956.cell rfl) rfl ?_
          exact wpo_nil ⟨rfl, hi954⟩
         refine yll_cons rfl (fun w957 hi958 => ?_) ?_
         ·
          have hb959 := low0 hb328 hi958
          refine wpo_run rfl rfl rfl h347 ?_
          refine wpo_sub (c := ((rAt (mAt ms ((q.run - 1).toNat)).t.slots ((q.a).toNat)).th) - 1) rfl rfl (by omega) (by omega) (by omega) rfl ?_
          exact wpo_nil ⟨rfl, hi958⟩
         refine yll_cons rfl (fun w960 hi961 => ?_) ?_
         ·
          have hb962 := low0 hb328 hi961
          refine wpo_run rfl rfl rfl h347 ?_
          refine wpo_indexE es_54 rfl rfl ha917 ho918 (by omega) (by omega) rfl ?_
          exact wpo_nil ⟨rfl, hi961⟩
         refine yll_cons rfl (fun w963 hi964 => ?_) ?_
         ·
          have hb965 := low0 hb328 hi964
          refine wpo_run rfl rfl rfl h347 ?_
          refine wpo_fieldAddr (o' := o916) fo_45_0 rfl rfl rfl ?_
          exact wpo_nil ⟨rfl, hi964⟩
         refine yll_cons rfl (fun w966 hi967 => ?_) ?_
         ·
          have hb968 := low0 hb328 hi967
          refine wpo_run rfl rfl rfl h347 ?_
          refine wpo_load1 (v := .int .i64 ((mAt ms ((((rAt (mAt ms ((q.run - 1).toNat)).t.slots ((q.a).toNat)).th) - 1).toNat)).t.kind)) ot_3 rfl ((range_low hr919 hi967) 0 _ rfl) rfl ?_
          exact wpo_nil ⟨rfl, hi967⟩
         exact yll_nil
        ·
         intro w969 hi970
         have hb971 := low0 hb328 hi970
         refine wpo_run rfl rfl rfl h347 ?_
         refine wpo_call (vs := [.int .i64 q.kind, .int .i64 ((mAt ms ((((rAt (mAt ms ((q.run - 1).toNat)).t.slots ((q.a).toNat)).th) - 1).toNat)).t.kind)]) gf_118 (args_cons rfl (args_cons rfl args_nil)) rfl (l11Kind_c q.kind ((mAt ms ((((rAt (mAt ms ((q.run - 1).toNat)).t.slots ((q.a).toNat)).th) - 1).toNat)).t.kind) _) ?_
         rintro _ w972 ⟨rfl, hg973⟩
         have hb974 := low0 hb971 hg973
         refine wpo_run rfl rfl rfl h347 ?_
         refine wpo_not (b' := !kindFor q.kind ((mAt ms ((((rAt (mAt ms ((q.run - 1).toNat)).t.slots ((q.a).toNat)).th) - 1).toNat)).t.kind)) rfl rfl rfl ?_
         refine wpo_pickf (v := .bool (!kindFor q.kind ((mAt ms ((((rAt (mAt ms ((q.run - 1).toNat)).t.slots ((q.a).toNat)).th) - 1).toNat)).t.kind))) rfl h347 rfl rfl ?_
         refine wpo_move (v := .bool (!kindFor q.kind ((mAt ms ((((rAt (mAt ms ((q.run - 1).toNat)).t.slots ((q.a).toNat)).th) - 1).toNat)).t.kind))) rfl rfl ?_
         refine wpo_run rfl rfl rfl h410 ?_
         refine wpo_move (v := .slice (some ⟨B323, 0, none⟩) 4 4) rfl rfl ?_
         refine wpo_run rfl rfl rfl h410 ?_
         refine wpo_indexAddr (o' := 0) es_145 rfl rfl (by omega) (by omega) rfl rfl ?_
         refine wpo_run rfl rfl rfl h410 ?_
         have k975 := ((k325.grown0 hi970).grown0 hg973)
         refine wpo_load1 (v := .bool (need0 q.kind)) ot_4 rfl (k975.cell rfl) rfl ?_
         refine wpo_run rfl rfl rfl h410 ?_
         refine wpo_move (v := .bool (need0 q.kind)) rfl rfl ?_
         iterate 3 refine wpo_pass rfl rfl rfl h506 rfl ?_
         refine wpo_run rfl rfl rfl h410 ?_
         refine wpo_pickf (v := .bool false) rfl h506 rfl rfl ?_
         refine wpo_pickf (v := .bool false) rfl h410 rfl rfl ?_
         refine wpo_move (v := .bool false) rfl rfl ?_
         refine wpo_run rfl rfl rfl rfl ?_
         refine wpo_move (v := .slice (some ⟨B323, 0, none⟩) 4 4) rfl rfl ?_
         refine wpo_run rfl rfl rfl rfl ?_
         refine wpo_indexAddr (o' := 1) es_145 rfl rfl (by omega) (by omega) rfl rfl ?_
         refine wpo_run rfl rfl rfl rfl ?_
         refine wpo_load1 (v := .bool (need1 q.kind)) ot_4 rfl (k975.cell rfl) rfl ?_
         refine wpo_run rfl rfl rfl rfl ?_
         refine wpo_move (v := .bool (need1 q.kind)) rfl rfl ?_
         iterate 3 refine wpo_pass rfl rfl rfl h810 rfl ?_
         refine wpo_run rfl rfl rfl rfl ?_
         refine wpo_pickf (v := .bool false) rfl h810 rfl rfl ?_
         refine wpo_pickf (v := .bool false) rfl rfl rfl rfl ?_
         exact wpo_nil (thn_n ⟨⟨e303, e304, e305, e318, rfl, (congrArg Value.bool (by first | (simp only [h105, h347, h410, h490, h506, h810, hT, b0, b1, b2, b3, b4, b5, b6, b7, b8, b9]; done) | simp [h105, h347, h410, h490, h506, h810, hT]))⟩, (grown_trans hi970 hg973)⟩)
   ·
    rintro f976 w977 ⟨⟨e978, e979, e980, e981, e982, e983⟩, hg984⟩
    have hb985 := low0 hb328 hg984
    refine wpf_cond e983 (fun h986 => ?_) (fun h986 => ?_)
    ·
     refine wpf_seq_region ?_
     refine wpo_assign (v := .int .i64 (-1)) rfl rfl ?_
     refine wpo_nil ?_
     refine wpf_ret ?_
     refine thn_r ?_
     refine ⟨.int .i64 (-1), res1 rfl rfl, ?_, hb985⟩
     exact congrArg (Value.int .i64) (check_1 h105 h986)
    ·
     have h987 := or_l h986
     have h988 := or_l h987
     have h989 := or_l h988
     have h990 := of_decide_eq_false h989
     have h991 := or_r h988
     have h992 := nt_f h991
     have h993 := or_r h987
     have h994 := or_r h986
     refine wpf_skip ?_
     refine thn_n ?_
     refine wpf_seq_region ?_
     refine wpo_move (v := .slice a ms.length c) e978 rfl ?_
     refine wpo_fieldAddr (o' := 1) fo_76_1 e979 rfl rfl ?_
     have k995 := ((k322.grown0 hg326).grown0 hg984)
     refine wpo_load1 (v := .int .i64 q.run) ot_3 rfl (k995.cell rfl) rfl ?_
     refine wpo_fieldAddr (o' := 0) fo_29_0 e981 rfl rfl ?_
     have k996 := ((hS320.blk.grown0 hg326).grown0 hg984)
     refine wpo_load1 (v := .int .i64 ((rAt (mAt ms ((q.run - 1).toNat)).t.slots ((q.a).toNat)).th)) ot_3 rfl (k996.cell rfl) rfl ?_
     refine wpo_call (vs := [.slice a ms.length c, .int .i64 q.run, .int .i64 ((rAt (mAt ms ((q.run - 1).toNat)).t.slots ((q.a).toNat)).th)]) gf_122 (args_cons rfl (args_cons rfl (args_cons rfl args_nil))) rfl (l11Sees_c q.run ((rAt (mAt ms ((q.run - 1).toNat)).t.slots ((q.a).toNat)).th) _ ms _ _ (TabAt.low ht hb985) hlen (by omega) hT (by omega) (by omega)) ?_
     rintro _ w997 ⟨rfl, hg998⟩
     have hb999 := low0 hb985 hg998
     refine wpo_assign (v := .bool (sees (tabT ms) q.run ((rAt (mAt ms ((q.run - 1).toNat)).t.slots ((q.a).toNat)).th))) rfl rfl ?_
     refine wpo_nil ?_
     refine wpf_seq ?_
     refine wpf_seq_region_mid (fun f' w' => (f' 0 = .slice a ms.length c ∧ f' 4 = .int .i64 0 ∧ f' 5 = .pointer (some ⟨B180, 0, none⟩) ∧ f' 7 = .bool (sees (tabT ms) q.run ((rAt (mAt ms ((q.run - 1).toNat)).t.slots ((q.a).toNat)).th)) ∧ f' 87 = .bool ((need0 q.kind && (!sees (tabT ms) q.run ((rAt (mAt ms ((q.run - 1).toNat)).t.slots ((q.a).toNat)).th))) || (need1 q.kind && (!touches (tabT ms) q.run ((rAt (mAt ms ((q.run - 1).toNat)).t.slots ((q.a).toNat)).th))))) ∧ w997.grownBy w' none) ?_ ?_
     ·
      refine wpo_move (v := .slice (some ⟨B323, 0, none⟩) 4 4) e982 rfl ?_
      refine wpo_indexAddr (o' := 2) es_145 rfl rfl (by omega) (by omega) rfl rfl ?_
      have k1007 := ((k325.grown0 hg984).grown0 hg998)
      refine wpo_load1 (v := .bool (need0 q.kind)) ot_4 rfl (k1007.cell rfl) rfl ?_
      refine wpo_move (v := .bool (need0 q.kind)) rfl rfl ?_
      rcases bcases (need0 q.kind) with h1008 | h1008
      ·
       refine wpo_run rfl rfl rfl h1008 ?_
       refine wpo_move (v := .bool (sees (tabT ms) q.run ((rAt (mAt ms ((q.run - 1).toNat)).t.slots ((q.a).toNat)).th))) rfl rfl ?_
       refine wpo_run rfl rfl rfl h1008 ?_
       refine wpo_not (b' := !sees (tabT ms) q.run ((rAt (mAt ms ((q.run - 1).toNat)).t.slots ((q.a).toNat)).th)) rfl rfl rfl ?_
       refine wpo_pickt (v := .bool (!sees (tabT ms) q.run ((rAt (mAt ms ((q.run - 1).toNat)).t.slots ((q.a).toNat)).th))) rfl h1008 rfl rfl ?_
       refine wpo_move (v := .bool (!sees (tabT ms) q.run ((rAt (mAt ms ((q.run - 1).toNat)).t.slots ((q.a).toNat)).th))) rfl rfl ?_
       rcases bcases (!sees (tabT ms) q.run ((rAt (mAt ms ((q.run - 1).toNat)).t.slots ((q.a).toNat)).th)) with h1009 | h1009
       ·
        have h1010 := nt_t h1009
        iterate 4 refine wpo_pass rfl rfl rfl h1009 rfl ?_
        iterate 7 refine wpo_passu rfl rfl rfl rfl ?_
        refine wpo_pass rfl rfl rfl h1009 rfl ?_
        refine wpo_pickt (v := .bool true) rfl h1009 rfl rfl ?_
        exact wpo_nil ⟨⟨e978, e980, e981, rfl, (congrArg Value.bool (by first | (simp only [h1008, h1009, h1010, h105, h986, h987, h988, h989, h991, h992, h993, h994, hT, b0, b1, b2, b3, b4, b5, b6, b7, b8, b9]; done) | simp [h1008, h1009, h1010, h105, h986, h987, h988, h989, h991, h992, h993, h994, hT]))⟩, (World.grownBy.refl _ _)⟩
       ·
        have h1011 := nt_f h1009
        refine wpo_run rfl rfl rfl h1009 ?_
        refine wpo_move (v := .slice (some ⟨B323, 0, none⟩) 4 4) e982 rfl ?_
        refine wpo_run rfl rfl rfl h1009 ?_
        refine wpo_indexAddr (o' := 3) es_145 rfl rfl (by omega) (by omega) rfl rfl ?_
        refine wpo_run rfl rfl rfl h1009 ?_
        refine wpo_load1 (v := .bool (need1 q.kind)) ot_4 rfl (k1007.cell rfl) rfl ?_
        refine wpo_run rfl rfl rfl h1009 ?_
        refine wpo_move (v := .bool (need1 q.kind)) rfl rfl ?_
        rcases bcases (need1 q.kind) with h1012 | h1012
        ·
         refine wpo_run rfl rfl rfl h1012 ?_
         refine wpo_move (v := .slice a ms.length c) e978 rfl ?_
         refine wpo_run rfl rfl rfl h1012 ?_
         refine wpo_fieldAddr (o' := 1) fo_76_1 e979 rfl rfl ?_
         refine wpo_run rfl rfl rfl h1012 ?_
         have k1013 := (k995.grown0 hg998)
         refine wpo_load1 (v := .int .i64 q.run) ot_3 rfl (k1013.cell rfl) rfl ?_
         refine wpo_run rfl rfl rfl h1012 ?_
         refine wpo_fieldAddr (o' := 0) fo_29_0 e981 rfl rfl ?_
         refine wpo_run rfl rfl rfl h1012 ?_
         have k1014 := (k996.grown0 hg998)
         refine wpo_load1 (v := .int .i64 ((rAt (mAt ms ((q.run - 1).toNat)).t.slots ((q.a).toNat)).th)) ot_3 rfl (k1014.cell rfl) rfl ?_
         refine wpo_run rfl rfl rfl h1012 ?_
         refine wpo_call (vs := [.slice a ms.length c, .int .i64 q.run, .int .i64 ((rAt (mAt ms ((q.run - 1).toNat)).t.slots ((q.a).toNat)).th)]) gf_124 (args_cons rfl (args_cons rfl (args_cons rfl args_nil))) rfl (l11Touches_c q.run ((rAt (mAt ms ((q.run - 1).toNat)).t.slots ((q.a).toNat)).th) _ ms _ _ (TabAt.low ht hb999) hlen (by omega) hT (by omega) (by omega)) ?_
         rintro _ w1015 ⟨rfl, hg1016⟩
         have hb1017 := low0 hb999 hg1016
         refine wpo_run rfl rfl rfl h1012 ?_
         refine wpo_not (b' := !touches (tabT ms) q.run ((rAt (mAt ms ((q.run - 1).toNat)).t.slots ((q.a).toNat)).th)) rfl rfl rfl ?_
         refine wpo_run rfl rfl rfl h1009 ?_
         refine wpo_pickt (v := .bool (!touches (tabT ms) q.run ((rAt (mAt ms ((q.run - 1).toNat)).t.slots ((q.a).toNat)).th))) rfl h1012 rfl rfl ?_
         refine wpo_pickf (v := .bool (!touches (tabT ms) q.run ((rAt (mAt ms ((q.run - 1).toNat)).t.slots ((q.a).toNat)).th))) rfl h1009 rfl rfl ?_
         exact wpo_nil ⟨⟨e978, e980, e981, rfl, (congrArg Value.bool (by first | (simp only [h1008, h1009, h1011, h1012, h105, h986, h987, h988, h989, h991, h992, h993, h994, hT, b0, b1, b2, b3, b4, b5, b6, b7, b8, b9]; done) | simp [h1008, h1009, h1011, h1012, h105, h986, h987, h988, h989, h991, h992, h993, h994, hT]))⟩, hg1016⟩
        ·
         iterate 7 refine wpo_pass rfl rfl rfl h1012 rfl ?_
         refine wpo_run rfl rfl rfl h1009 ?_
         refine wpo_pickf (v := .bool false) rfl h1012 rfl rfl ?_
         refine wpo_pickf (v := .bool false) rfl h1009 rfl rfl ?_
         exact wpo_nil ⟨⟨e978, e980, e981, rfl, (congrArg Value.bool (by first | (simp only [h1008, h1009, h1011, h1012, h105, h986, h987, h988, h989, h991, h992, h993, h994, hT, b0, b1, b2, b3, b4, b5, b6, b7, b8, b9]; done) | simp [h1008, h1009, h1011, h1012, h105, h986, h987, h988, h989, h991, h992, h993, h994, hT]))⟩, (World.grownBy.refl _ _)⟩
      ·
       refine wpo_pass rfl rfl rfl h1008 rfl ?_
       refine wpo_pass rfl rfl rfl h1008 rfl ?_
       refine wpo_pickf (v := .bool false) rfl h1008 rfl rfl ?_
       refine wpo_move (v := .bool false) rfl rfl ?_
       refine wpo_run rfl rfl rfl rfl ?_
       refine wpo_move (v := .slice (some ⟨B323, 0, none⟩) 4 4) e982 rfl ?_
       refine wpo_run rfl rfl rfl rfl ?_
       refine wpo_indexAddr (o' := 3) es_145 rfl rfl (by omega) (by omega) rfl rfl ?_
       refine wpo_run rfl rfl rfl rfl ?_
       refine wpo_load1 (v := .bool (need1 q.kind)) ot_4 rfl (k1007.cell rfl) rfl ?_
       refine wpo_run rfl rfl rfl rfl ?_
       refine wpo_move (v := .bool (need1 q.kind)) rfl rfl ?_
       rcases bcases (need1 q.kind) with h1018 | h1018
       ·
        refine wpo_run rfl rfl rfl h1018 ?_
        refine wpo_move (v := .slice a ms.length c) e978 rfl ?_
        refine wpo_run rfl rfl rfl h1018 ?_
        refine wpo_fieldAddr (o' := 1) fo_76_1 e979 rfl rfl ?_
        refine wpo_run rfl rfl rfl h1018 ?_
        have k1019 := (k995.grown0 hg998)
        refine wpo_load1 (v := .int .i64 q.run) ot_3 rfl (k1019.cell rfl) rfl ?_
        refine wpo_run rfl rfl rfl h1018 ?_
        refine wpo_fieldAddr (o' := 0) fo_29_0 e981 rfl rfl ?_
        refine wpo_run rfl rfl rfl h1018 ?_
        have k1020 := (k996.grown0 hg998)
        refine wpo_load1 (v := .int .i64 ((rAt (mAt ms ((q.run - 1).toNat)).t.slots ((q.a).toNat)).th)) ot_3 rfl (k1020.cell rfl) rfl ?_
        refine wpo_run rfl rfl rfl h1018 ?_
        refine wpo_call (vs := [.slice a ms.length c, .int .i64 q.run, .int .i64 ((rAt (mAt ms ((q.run - 1).toNat)).t.slots ((q.a).toNat)).th)]) gf_124 (args_cons rfl (args_cons rfl (args_cons rfl args_nil))) rfl (l11Touches_c q.run ((rAt (mAt ms ((q.run - 1).toNat)).t.slots ((q.a).toNat)).th) _ ms _ _ (TabAt.low ht hb999) hlen (by omega) hT (by omega) (by omega)) ?_
        rintro _ w1021 ⟨rfl, hg1022⟩
        have hb1023 := low0 hb999 hg1022
        refine wpo_run rfl rfl rfl h1018 ?_
        refine wpo_not (b' := !touches (tabT ms) q.run ((rAt (mAt ms ((q.run - 1).toNat)).t.slots ((q.a).toNat)).th)) rfl rfl rfl ?_
        refine wpo_run rfl rfl rfl rfl ?_
        refine wpo_pickt (v := .bool (!touches (tabT ms) q.run ((rAt (mAt ms ((q.run - 1).toNat)).t.slots ((q.a).toNat)).th))) rfl h1018 rfl rfl ?_
        refine wpo_pickf (v := .bool (!touches (tabT ms) q.run ((rAt (mAt ms ((q.run - 1).toNat)).t.slots ((q.a).toNat)).th))) rfl rfl rfl rfl ?_
        exact wpo_nil ⟨⟨e978, e980, e981, rfl, (congrArg Value.bool (by first | (simp only [h1008, h1018, h105, h986, h987, h988, h989, h991, h992, h993, h994, hT, b0, b1, b2, b3, b4, b5, b6, b7, b8, b9]; done) | simp [h1008, h1018, h105, h986, h987, h988, h989, h991, h992, h993, h994, hT]))⟩, hg1022⟩
       ·
        iterate 7 refine wpo_pass rfl rfl rfl h1018 rfl ?_
        refine wpo_run rfl rfl rfl rfl ?_
        refine wpo_pickf (v := .bool false) rfl h1018 rfl rfl ?_
        refine wpo_pickf (v := .bool false) rfl rfl rfl rfl ?_
        exact wpo_nil ⟨⟨e978, e980, e981, rfl, (congrArg Value.bool (by first | (simp only [h1008, h1018, h105, h986, h987, h988, h989, h991, h992, h993, h994, hT, b0, b1, b2, b3, b4, b5, b6, b7, b8, b9]; done) | simp [h1008, h1018, h105, h986, h987, h988, h989, h991, h992, h993, h994, hT]))⟩, (World.grownBy.refl _ _)⟩
     ·
      rintro f1024 w1025 ⟨⟨e1026, e1027, e1028, e1029, e1030⟩, hg1031⟩
      have hb1032 := low0 hb999 hg1031
      refine wpf_cond e1030 (fun h1033 => ?_) (fun h1033 => ?_)
      ·
       refine wpf_seq_region ?_
       refine wpo_assign (v := .int .i64 (-2)) rfl rfl ?_
       refine wpo_nil ?_
       refine wpf_ret ?_
       refine thn_r ?_
       refine ⟨.int .i64 (-2), res1 rfl rfl, ?_, hb1032⟩
       exact congrArg (Value.int .i64) (check_2 h105 h986 h1033)
      ·
       have h1034 := or_l h1033
       have h1035 := or_r h1033
       refine wpf_skip ?_
       refine thn_n ?_
       refine wpf_seq ?_
       refine wpf_seq_region_mid (fun f' w' => (f' 4 = .int .i64 0 ∧ f' 94 = .bool (sees (tabT ms) q.run ((rAt (mAt ms ((q.run - 1).toNat)).t.slots ((q.a).toNat)).th) && (!live (tabT ms) (rAt (mAt ms ((q.run - 1).toNat)).t.slots ((q.a).toNat))))) ∧ w1025.grownBy w' none) ?_ ?_
       ·
        refine wpo_move (v := .bool (sees (tabT ms) q.run ((rAt (mAt ms ((q.run - 1).toNat)).t.slots ((q.a).toNat)).th))) e1029 rfl ?_
        refine wpo_move (v := .bool (sees (tabT ms) q.run ((rAt (mAt ms ((q.run - 1).toNat)).t.slots ((q.a).toNat)).th))) rfl rfl ?_
        rcases bcases (sees (tabT ms) q.run ((rAt (mAt ms ((q.run - 1).toNat)).t.slots ((q.a).toNat)).th)) with h1040 | h1040
        ·
         refine wpo_run rfl rfl rfl h1040 ?_
         refine wpo_move (v := .slice a ms.length c) e1026 rfl ?_
         refine wpo_run rfl rfl rfl h1040 ?_
         have k1041 := ((k996.grown0 hg998).grown0 hg1031)
         refine wpo_loadn (vs := [.int .i64 ((rAt (mAt ms ((q.run - 1).toNat)).t.slots ((q.a).toNat)).th), .int .i64 ((rAt (mAt ms ((q.run - 1).toNat)).t.slots ((q.a).toNat)).ve), .bool ((rAt (mAt ms ((q.run - 1).toNat)).t.slots ((q.a).toNat)).rd), .bool ((rAt (mAt ms ((q.run - 1).toNat)).t.slots ((q.a).toNat)).wr), .bool ((rAt (mAt ms ((q.run - 1).toNat)).t.slots ((q.a).toNat)).wk)]) rt_29 e1028 rfl (k1041.rangeL 0 5 rfl) rfl ?_
         refine wpo_run rfl rfl rfl h1040 ?_
         refine wpo_call (vs := [.slice a ms.length c, .agg #[.int .i64 ((rAt (mAt ms ((q.run - 1).toNat)).t.slots ((q.a).toNat)).th), .int .i64 ((rAt (mAt ms ((q.run - 1).toNat)).t.slots ((q.a).toNat)).ve), .bool ((rAt (mAt ms ((q.run - 1).toNat)).t.slots ((q.a).toNat)).rd), .bool ((rAt (mAt ms ((q.run - 1).toNat)).t.slots ((q.a).toNat)).wr), .bool ((rAt (mAt ms ((q.run - 1).toNat)).t.slots ((q.a).toNat)).wk)]]) gf_120 (args_cons rfl (args_cons rfl args_nil)) rfl (l3Live_c (rAt (mAt ms ((q.run - 1).toNat)).t.slots ((q.a).toNat)) (by omega) _ ms _ _ (TabAt.low ht hb1032) hlen (by omega)) ?_
         rintro _ w1042 ⟨rfl, hg1043⟩
         have hb1044 := low0 hb1032 hg1043
         refine wpo_run rfl rfl rfl h1040 ?_
         refine wpo_not (b' := !live (tabT ms) (rAt (mAt ms ((q.run - 1).toNat)).t.slots ((q.a).toNat))) rfl rfl rfl ?_
         refine wpo_pickt (v := .bool (!live (tabT ms) (rAt (mAt ms ((q.run - 1).toNat)).t.slots ((q.a).toNat)))) rfl h1040 rfl rfl ?_
         exact wpo_nil ⟨⟨e1027, (congrArg Value.bool (by first | (simp only [h1033, h1034, h1035, h1040, h105, h986, h987, h988, h989, h991, h992, h993, h994, hT, b0, b1, b2, b3, b4, b5, b6, b7, b8, b9]; done) | simp [h1033, h1034, h1035, h1040, h105, h986, h987, h988, h989, h991, h992, h993, h994, hT]))⟩, hg1043⟩
        ·
         iterate 4 refine wpo_pass rfl rfl rfl h1040 rfl ?_
         refine wpo_pickf (v := .bool false) rfl h1040 rfl rfl ?_
         exact wpo_nil ⟨⟨e1027, (congrArg Value.bool (by first | (simp only [h1033, h1034, h1035, h1040, h105, h986, h987, h988, h989, h991, h992, h993, h994, hT, b0, b1, b2, b3, b4, b5, b6, b7, b8, b9]; done) | simp [h1033, h1034, h1035, h1040, h105, h986, h987, h988, h989, h991, h992, h993, h994, hT]))⟩, (World.grownBy.refl _ _)⟩
       ·
        rintro f1045 w1046 ⟨⟨e1047, e1048⟩, hg1049⟩
        have hb1050 := low0 hb1032 hg1049
        refine wpf_cond e1048 (fun h1051 => ?_) (fun h1051 => ?_)
        ·
         have h1052 := and_l h1051
         have h1053 := and_r h1051
         have h1054 := nt_t h1053
         refine wpf_seq_region ?_
         refine wpo_assign (v := .int .i64 (-3)) rfl rfl ?_
         refine wpo_nil ?_
         refine wpf_ret ?_
         refine thn_r ?_
         refine ⟨.int .i64 (-3), res1 rfl rfl, ?_, hb1050⟩
         exact congrArg (Value.int .i64) (check_3 h105 h986 h1033 h1051)
        ·
         refine wpf_skip ?_
         refine thn_n ?_
         refine wpf_seq_region ?_
         refine wpo_assign (v := .int .i64 0) rfl rfl ?_
         refine wpo_nil ?_
         refine wpf_ret ?_
         refine ⟨.int .i64 0, res1 rfl rfl, ?_, hb1050⟩
         exact congrArg (Value.int .i64) (check_0 h105 h986 h1033 h1051)
theorem sRunLow_c (l : Lab) (w : World) (ms : List MTh) (a : Option Addr) (c : Nat) (ht : TabAt w a ms) (hlen : TabLen ms) (hn : ms.length ≤ 1048576) (cs : List Cl) (b : Option Addr) (e : Nat) (hs : SlAt w b 5 (cs.map Cl.cells)) (hm : cs.length ≤ 1048576) : CallsR Try.prog 46 #[.slice a ms.length c, .slice b cs.length e, .agg #[.int .i64 l.s, .int .i64 l.v]] w (fun v w' => ∃ (B cap : Nat), v = .slice (some ⟨B, 0, none⟩) (runLow (tabT ms) cs l).length cap ∧ w.heap.size ≤ B ∧ Dw.Own w' B 76 5 cap (runLow (tabT ms) cs l).length ((runLow (tabT ms) cs l).flatMap Cl.cells) ∧ w.grownBy w' none) := by
 refine calls_of_wpf (n := 51) Try.func46 rfl Try.ntmps46 rfl ?_
 have hb0 := World.grownBy.refl w none
 refine wpf_seq_region ?_
 refine wpo_box (v := .agg #[.int .i64 l.s, .int .i64 l.v]) (cs := #[.int .i64 l.s, .int .i64 l.v]) rfl rfl rfl ?_
 intro B101 w102 hN103
 have hlB101 := hN_ge hN103 hb0
 have hb104 := low0 hb0 hN103.grw
 refine wpo_assign (v := .slice none 0 0) rfl rfl ?_
 refine wpo_nil ?_
 refine wpf_seq_region ?_
 refine wpo_buildSlice (ps := []) (e := 76) (cs := (([] : List Cl).flatMap Cl.cells).toArray) parts_nil (fun _ => by kernel_rfl) rfl ?_
 intro B105 w106 hN107
 have hlB105 := hN_ge hN107 hb104
 have lt_B101_B105 := hN_gtl hN107 (hN103.blk).lt
 have hb108 := low0 hb104 hN107.grw
 refine wpo_assign (v := .slice (some ⟨B105, 0, none⟩) 0 0) rfl rfl ?_
 refine wpo_nil ?_
 refine wpf_seq ?_
 refine wpf_seq_region_mid (fun f' w' => (f' 0 = .slice a ms.length c ∧ f' 1 = .slice b cs.length e ∧ f' 5 = .pointer (some ⟨B101, 0, none⟩) ∧ f' 6 = .slice none 0 0 ∧ f' 7 = .slice (some ⟨B105, 0, none⟩) 0 0 ∧ f' 23 = .bool (((!tableOk (tabT ms)) || (!callsIn_ (tabT ms) cs)) || (!labelOk l))) ∧ w106.grownBy w' none) ?_ ?_
 ·
  refine wpo_move (v := .slice a ms.length c) rfl rfl ?_
  refine wpo_call (vs := [.slice a ms.length c]) gf_34 (args_cons rfl args_nil) rfl (sTableOk_c  _ ms _ _ (TabAt.low ht hb108) hlen (by omega)) ?_
  rintro _ w122 ⟨rfl, hg123⟩
  have hb124 := low0 hb108 hg123
  refine wpo_not (b' := !tableOk (tabT ms)) rfl rfl rfl ?_
  refine wpo_move (v := .bool (!tableOk (tabT ms))) rfl rfl ?_
  rcases bcases (!tableOk (tabT ms)) with h125 | h125
  ·
   have h126 := nt_t h125
   iterate 4 refine wpo_pass rfl rfl rfl h125 rfl ?_
   refine wpo_pickt (v := .bool true) rfl h125 rfl rfl ?_
   refine wpo_move (v := .bool true) rfl rfl ?_
   iterate 3 refine wpo_pass rfl rfl rfl rfl rfl ?_
   refine wpo_pickt (v := .bool true) rfl rfl rfl rfl ?_
   exact wpo_nil ⟨⟨rfl, rfl, rfl, rfl, rfl, (congrArg Value.bool (by first | (simp only [h125, h126, b0, b1, b2, b3, b4, b5, b6, b7, b8, b9]; done) | simp [h125, h126]))⟩, hg123⟩
  ·
   have h127 := nt_f h125
   refine wpo_run rfl rfl rfl h125 ?_
   refine wpo_move (v := .slice a ms.length c) rfl rfl ?_
   refine wpo_run rfl rfl rfl h125 ?_
   refine wpo_move (v := .slice b cs.length e) rfl rfl ?_
   refine wpo_run rfl rfl rfl h125 ?_
   refine wpo_call (vs := [.slice a ms.length c, .slice b cs.length e]) gf_91 (args_cons rfl (args_cons rfl args_nil)) rfl (l21Calls_c  _ ms _ _ (TabAt.low ht hb124) hlen (by omega) cs _ _ (SlAt.low hs hb124) (by first | omega | exact Nat.le_of_ble_eq_true rfl | (simp only [List.length_nil, List.length_cons, List.length_append, List.length_replicate]; omega))) ?_
   rintro _ w128 ⟨rfl, hg129⟩
   have hb130 := low0 hb124 hg129
   refine wpo_run rfl rfl rfl h125 ?_
   refine wpo_not (b' := !callsIn_ (tabT ms) cs) rfl rfl rfl ?_
   refine wpo_pickf (v := .bool (!callsIn_ (tabT ms) cs)) rfl h125 rfl rfl ?_
   refine wpo_move (v := .bool (!callsIn_ (tabT ms) cs)) rfl rfl ?_
   rcases bcases (!callsIn_ (tabT ms) cs) with h131 | h131
   ·
    have h132 := nt_t h131
    iterate 3 refine wpo_pass rfl rfl rfl h131 rfl ?_
    refine wpo_pickt (v := .bool true) rfl h131 rfl rfl ?_
    exact wpo_nil ⟨⟨rfl, rfl, rfl, rfl, rfl, (congrArg Value.bool (by first | (simp only [h125, h127, h131, h132, b0, b1, b2, b3, b4, b5, b6, b7, b8, b9]; done) | simp [h125, h127, h131, h132]))⟩, (grown_trans hg123 hg129)⟩
   ·
    have h133 := nt_f h131
    have hsc134 : scriptOk (tabT ms) cs = true := by unfold scriptOk; rw [h127, h133]; rfl
    have hrun135 := script_run hsc134
    refine wpo_run rfl rfl rfl h131 ?_
    have k136 := (((hN103.blk.grown0 hN107.grw).grown0 hg123).grown0 hg129)
    refine wpo_loadn (vs := [.int .i64 l.s, .int .i64 l.v]) rt_40 rfl rfl (k136.rangeL 0 2 rfl) rfl ?_
    refine wpo_run rfl rfl rfl h131 ?_
    refine wpo_call (vs := [.agg #[.int .i64 l.s, .int .i64 l.v]]) gf_35 (args_cons rfl args_nil) rfl (sLabelOk_c l _) ?_
    rintro _ w137 ⟨rfl, hg138⟩
    have hb139 := low0 hb130 hg138
    refine wpo_run rfl rfl rfl h131 ?_
    refine wpo_not (b' := !labelOk l) rfl rfl rfl ?_
    refine wpo_pickf (v := .bool (!labelOk l)) rfl h131 rfl rfl ?_
    exact wpo_nil ⟨⟨rfl, rfl, rfl, rfl, rfl, (congrArg Value.bool (by first | (simp only [h125, h127, h131, h133, b0, b1, b2, b3, b4, b5, b6, b7, b8, b9]; done) | simp [h125, h127, h131, h133]))⟩, (grown_trans (grown_trans hg123 hg129) hg138)⟩
 ·
  rintro f140 w141 ⟨⟨e142, e143, e144, e145, e146, e147⟩, hg148⟩
  have hb149 := low0 hb108 hg148
  refine wpf_cond e147 (fun h150 => ?_) (fun h150 => ?_)
  ·
   refine wpf_seq_region ?_
   refine wpo_move (v := .slice (some ⟨B105, 0, none⟩) 0 0) e146 rfl ?_
   refine wpo_assign (v := .slice (some ⟨B105, 0, none⟩) 0 0) rfl rfl ?_
   refine wpo_nil ?_
   refine wpf_ret ?_
   refine thn_r ?_
   have hrl : runLow (tabT ms) cs l = [] := runLow_no (script_s.trans h150)
   refine ⟨.slice (some ⟨B105, 0, none⟩) 0 0, res1 rfl rfl, B105, 0, by rw [hrl]; rfl, hlB105, ?_, hb149⟩
   rw [hrl]
   have k151 := (hN107.blk.grown0 hg148)
   exact (Own.rows wide_cl k151 (by simp))
  ·
   have h152 := or_l h150
   have h153 := or_l h152
   have h154 := nt_f h153
   have h155 := or_r h152
   have h156 := nt_f h155
   have hsc157 : scriptOk (tabT ms) cs = true := by unfold scriptOk; rw [h154, h156]; rfl
   have hrun158 := script_run hsc157
   have h159 := or_r h150
   have h160 := nt_f h159
   refine wpf_skip ?_
   refine thn_n ?_
   refine wpf_seq ?_
   refine wpf_seq_region ?_
   refine wpo_assign (v := .int .i64 0) rfl rfl ?_
   refine wpo_nil ?_
   refine wpf_block ?_
   have k161 := (hN107.blk.grown0 hg148)
   have k162 := ((hN103.blk.grown0 hN107.grw).grown0 hg148)
   refine wpf_loopN (fun mm f' w' => ∃ (k : Nat) (Bq : Nat) (cq : Nat) (ys : List Cl), mm = cs.length - k ∧ k ≤ cs.length ∧ ys = (cs.take k).filter (lowOf (tabT ms) l) ∧ ys.length ≤ k ∧ Dw.Own w' Bq 76 5 cq ys.length (ys.flatMap Cl.cells) ∧ w.heap.size ≤ Bq ∧ B101 ≠ Bq ∧ f' 7 = .slice (some ⟨Bq, 0, none⟩) ys.length cq ∧ f' 8 = .int .i64 (k : Int) ∧ f' 0 = .slice a ms.length c ∧ f' 1 = .slice b cs.length e ∧ f' 5 = .pointer (some ⟨B101, 0, none⟩) ∧ f' 6 = .slice none 0 0 ∧ w.grownBy w' none ∧ Blk w' B101 40 #[.int .i64 l.s, .int .i64 l.v]) (cs.length - 0) ⟨0, B105, 0, ([] : List Cl), rfl, (Nat.zero_le _), rfl, (Nat.le_refl 0), (Own.rows wide_cl k161 (by simp)), hlB105, (by omega), e146, rfl, e142, e143, e144, e145, hb149, k162⟩ ?_
   rintro mm f163 w164 ⟨k, Bq, cq, ys, hm166, hk, hys, hyl, hOwn, hlBq, hne0, e167, e168, e169, e170, e171, e172, hb165, k173⟩
   refine wpf_seq ?_
   refine wpf_seq_region ?_
   refine wpo_move (v := .int .i64 (k : Int)) e168 rfl ?_
   refine wpo_move (v := .slice b cs.length e) e170 rfl ?_
   refine wpo_len (by kernel_rfl) rfl rfl ?_
   refine wpo_lss (q := decide ((k : Int) < (cs.length : Int))) rfl rfl rfl rfl ?_
   refine wpo_nil ?_
   refine wpf_cond rfl (fun h174 => ?_) (fun h174 => ?_)
   ·
    have h175 := of_decide_eq_true h174
    refine wpf_skip ?_
    refine thn_n ?_
    refine wpf_seq ?_
    refine wpf_block ?_
    refine wpf_seq ?_
    obtain ⟨b220, q221, o222, ha223, ho224, hr225⟩ := SlAt.at (SlAt.low hs hb165) (map_get (cAt_get (show k < cs.length by omega)))
    have hcf226 := hrun158 k (show k < cs.length by omega)
    obtain ⟨b229, q230, o231, ha232, ho233, hr234⟩ := SlAt.at (TabAt.low ht hb165).1 (map_get (mAt_get (show (((cAt cs k).run) - 1).toNat < ms.length by omega)))
    have hle235 := TabLen.at hlen (mAt_get (show (((cAt cs k).run) - 1).toNat < ms.length by omega))
    refine wpf_draw (m := 11) (vals := [(31, .slice a ms.length c), (32, .slice b cs.length e), (33, .int .i64 (k : Int)), (34, .pointer (some ⟨b220, o222, none⟩)), (35, .pointer (some ⟨b220, o222 + 1, none⟩)), (36, .int .i64 ((cAt cs k).run)), (37, .int .i64 (((cAt cs k).run) - 1)), (38, .pointer (some ⟨b229, o231, none⟩)), (39, .pointer (some ⟨b229, o231 + 1, none⟩)), (40, .agg #[.int .i64 ((mAt ms ((((cAt cs k).run) - 1).toNat)).t.lab.s), .int .i64 ((mAt ms ((((cAt cs k).run) - 1).toNat)).t.lab.v)]), (41, .agg #[.int .i64 l.s, .int .i64 l.v])]) (fun w' => w164.grownBy w' none) mixed_ (by kernel_rfl) (grown_drew _) ?_ ?_
    ·
     refine yll_cons rfl (fun w239 hi240 => ?_) ?_
     ·
      have hb241 := low0 hb165 hi240
      refine wpo_move (v := .slice a ms.length c) e169 rfl ?_
      exact wpo_nil ⟨rfl, hi240⟩
     refine yll_cons rfl (fun w242 hi243 => ?_) ?_
     ·
      have hb244 := low0 hb165 hi243
      refine wpo_move (v := .slice b cs.length e) e170 rfl ?_
      exact wpo_nil ⟨rfl, hi243⟩
     refine yll_cons rfl (fun w245 hi246 => ?_) ?_
     ·
      have hb247 := low0 hb165 hi246
      refine wpo_move (v := .int .i64 (k : Int)) e168 rfl ?_
      exact wpo_nil ⟨rfl, hi246⟩
     refine yll_cons rfl (fun w248 hi249 => ?_) ?_
     ·
      have hb250 := low0 hb165 hi249
      refine wpo_indexE es_69 rfl rfl ha223 ho224 (by omega) (by omega) rfl ?_
      exact wpo_nil ⟨rfl, hi249⟩
     refine yll_cons rfl (fun w251 hi252 => ?_) ?_
     ·
      have hb253 := low0 hb165 hi252
      refine wpo_fieldAddr (o' := o222 + 1) fo_76_1 rfl rfl rfl ?_
      exact wpo_nil ⟨rfl, hi252⟩
     refine yll_cons rfl (fun w254 hi255 => ?_) ?_
     ·
      have hb256 := low0 hb165 hi255
      refine wpo_load1 (v := .int .i64 ((cAt cs k).run)) ot_3 rfl ((range_low hr225 hi255) 1 _ rfl) rfl ?_
      exact wpo_nil ⟨rfl, hi255⟩
     refine yll_cons rfl (fun w257 hi258 => ?_) ?_
     ·
      have hb259 := low0 hb165 hi258
      refine wpo_sub (c := ((cAt cs k).run) - 1) rfl rfl (by omega) (by omega) (by omega) rfl ?_
      exact wpo_nil ⟨rfl, hi258⟩
     refine yll_cons rfl (fun w260 hi261 => ?_) ?_
     ·
      have hb262 := low0 hb165 hi261
      refine wpo_indexE es_54 rfl rfl ha232 ho233 (by omega) (by omega) rfl ?_
      exact wpo_nil ⟨rfl, hi261⟩
     refine yll_cons rfl (fun w263 hi264 => ?_) ?_
     ·
      have hb265 := low0 hb165 hi264
      refine wpo_fieldAddr (o' := o231 + 1) fo_45_1 rfl rfl rfl ?_
      exact wpo_nil ⟨rfl, hi264⟩
     refine yll_cons rfl (fun w266 hi267 => ?_) ?_
     ·
      have hb268 := low0 hb165 hi267
      refine wpo_loadn (vs := [.int .i64 ((mAt ms ((((cAt cs k).run) - 1).toNat)).t.lab.s), .int .i64 ((mAt ms ((((cAt cs k).run) - 1).toNat)).t.lab.v)]) rt_40 rfl rfl (range_sub (range_low hr234 hi267) 1 2 rfl) rfl ?_
      exact wpo_nil ⟨rfl, hi267⟩
     refine yll_cons rfl (fun w269 hi270 => ?_) ?_
     ·
      have hb271 := low0 hb165 hi270
      have k272 := (k173.grown0 hi270)
      refine wpo_loadn (vs := [.int .i64 l.s, .int .i64 l.v]) rt_40 e171 rfl (k272.rangeL 0 2 rfl) rfl ?_
      exact wpo_nil ⟨rfl, hi270⟩
     exact yll_nil
    ·
     intro w273 hi274
     have hb275 := low0 hb165 hi274
     have hl276 : labelOk ((mAt ms ((((cAt cs k).run) - 1).toNat)).t.lab) = true := tab_lab h154 (show ((((cAt cs k).run) - 1).toNat) < ms.length by omega)
     refine wpo_call (vs := [.agg #[.int .i64 ((mAt ms ((((cAt cs k).run) - 1).toNat)).t.lab.s), .int .i64 ((mAt ms ((((cAt cs k).run) - 1).toNat)).t.lab.v)], .agg #[.int .i64 l.s, .int .i64 l.v]]) gf_86 (args_cons rfl (args_cons rfl args_nil)) rfl (l1Flow_c ((mAt ms ((((cAt cs k).run) - 1).toNat)).t.lab) l hl276 h160 _) ?_
     rintro _ w277 ⟨rfl, hg278⟩
     have hb279 := low0 hb275 hg278
     refine wpo_nil ?_
     refine thn_n ?_
     refine wpf_cond rfl (fun h280 => ?_) (fun h280 => ?_)
     ·
      refine wpf_region ?_
      refine wpo_move (v := .slice (some ⟨Bq, 0, none⟩) ys.length cq) e167 rfl ?_
      refine wpo_move (v := .slice b cs.length e) e170 rfl ?_
      refine wpo_move (v := .int .i64 (k : Int)) e168 rfl ?_
      refine wpo_indexE es_69 rfl rfl ha223 ho224 (by omega) (by omega) rfl ?_
      refine wpo_loadn (vs := [.int .i64 ((cAt cs k).kind), .int .i64 ((cAt cs k).run), .int .i64 ((cAt cs k).a), .int .i64 ((cAt cs k).b), .int .i64 ((cAt cs k).n)]) rt_76 rfl rfl (range_sub (range_low hr225 (grown_trans hi274 hg278)) 0 5 rfl) rfl ?_
      refine wpo_buildSlice (ps := [(0, .agg #[.int .i64 ((cAt cs k).kind), .int .i64 ((cAt cs k).run), .int .i64 ((cAt cs k).a), .int .i64 ((cAt cs k).b), .int .i64 ((cAt cs k).n)])]) (e := 76) (cs := (([(cAt cs k)] : List Cl).flatMap Cl.cells).toArray) (parts_cons rfl parts_nil) (fun _ => by kernel_rfl) rfl ?_
      intro B281 w282 hN283
      have hlB281 := hN_ge hN283 hb279
      have k284 := ((k173.grown0 hi274).grown0 hg278)
      have lt_B101_B281 := hN_gtl hN283 (k284).lt
      have k285 := ((hOwn.grown0 hi274).grown0 hg278)
      have lt_Bq_B281 := hN_gtl hN283 (k285).lt
      have hb286 := low0 hb279 hN283.grw
      have k287 := (k285.grown0 hN283.grw)
      have k288 := (k284.grown0 hN283.grw)
      refine wpo_append (g := Cl.cells) (ys := ys) (zs := ([(cAt cs k)] : List Cl)) mk_69 rfl wide_cl (by omega) onec_cl rfl rfl k287 (rows_sl wide_cl hN283.blk) (by simp only [List.length_cons, List.length_nil]; omega) (by omega) rfl ?_
      intro B289 cap290 w291 hO292 hg293 hor294
      have hlB289 : w.heap.size ≤ B289 := by rcases hor294 with h | h; (rw [h]; exact hlBq); (rw [h]; exact hb286.size)
      have ne_B101_B289 : B101 ≠ B289 := by have h := (k288).lt; omega
      have ne_B281_B289 : B281 ≠ B289 := by have h := (hN283.blk).lt; omega
      have hb295 := low1 hb286 hg293 (by omega)
      refine wpo_assign (v := .slice (some ⟨B289, 0, none⟩) ((ys ++ ([(cAt cs k)] : List Cl)).length) cap290) rfl rfl ?_
      refine wpo_nil ?_
      refine blk_n ?_
      refine thn_n ?_
      refine wpf_region ?_
      refine wpo_move (v := .int .i64 (k : Int)) e168 rfl ?_
      refine wpo_add (c := (k : Int) + 1) rfl rfl (by omega) (by omega) (by omega) rfl ?_
      refine wpo_assign (v := .int .i64 ((k : Int) + 1)) rfl rfl ?_
      refine wpo_nil ?_
      refine thn_n ?_
      have k296 := (k288.grown hg293 (some_ne (by omega)))
      exact ⟨cs.length - (k + 1), by omega, (k + 1), B289, cap290, (ys ++ ([(cAt cs k)] : List Cl)), rfl, (by omega), (filter_t hys (cAt_get (by omega)) ((low_m (l := l) (c := cAt cs k)).symm.trans h280)), (by first | omega | (simp only [List.length_append, List.length_cons, List.length_nil]; omega)), hO292, hlB289, (by omega), rfl, rfl, e169, e170, e171, e172, hb295, k296⟩
     ·
      refine wpf_skip ?_
      refine blk_n ?_
      refine thn_n ?_
      refine wpf_region ?_
      refine wpo_move (v := .int .i64 (k : Int)) e168 rfl ?_
      refine wpo_add (c := (k : Int) + 1) rfl rfl (by omega) (by omega) (by omega) rfl ?_
      refine wpo_assign (v := .int .i64 ((k : Int) + 1)) rfl rfl ?_
      refine wpo_nil ?_
      refine thn_n ?_
      have k297 := ((hOwn.grown0 hi274).grown0 hg278)
      have k298 := ((k173.grown0 hi274).grown0 hg278)
      exact ⟨cs.length - (k + 1), by omega, (k + 1), Bq, cq, ys, rfl, (by omega), (filter_f hys (cAt_get (by omega)) ((low_m (l := l) (c := cAt cs k)).symm.trans h280)), (by first | omega | (simp only [List.length_append, List.length_cons, List.length_nil]; omega)), k297, hlBq, (by omega), e167, rfl, e169, e170, e171, e172, hb279, k298⟩
   ·
    have h299 := of_decide_eq_false h174
    refine wpf_exit ?_
    refine thn_e ?_
    refine thn_e ?_
    refine blk_e ?_
    refine thn_n ?_
    refine wpf_seq_region ?_
    refine wpo_move (v := .slice (some ⟨Bq, 0, none⟩) ys.length cq) e167 rfl ?_
    refine wpo_assign (v := .slice (some ⟨Bq, 0, none⟩) ys.length cq) rfl rfl ?_
    refine wpo_nil ?_
    refine wpf_ret ?_
    have hrl : runLow (tabT ms) cs l = ys := runLow_yes (script_s.trans h150) hys (by omega)
    refine ⟨.slice (some ⟨Bq, 0, none⟩) ys.length cq, res1 rfl rfl, Bq, cq, by rw [hrl], hlBq, ?_, hb165⟩
    rw [hrl]
    exact hOwn
theorem RunLow_c (l : Lab) (w : World) (ms : List MTh) (a : Option Addr) (c : Nat) (ht : TabAt w a ms) (hlen : TabLen ms) (hn : ms.length ≤ 1048576) (cs : List Cl) (b : Option Addr) (e : Nat) (hs : SlAt w b 5 (cs.map Cl.cells)) (hm : cs.length ≤ 1048576) : CallsR Try.prog 47 #[.slice a ms.length c, .slice b cs.length e, .agg #[.int .i64 l.s, .int .i64 l.v]] w (fun v w' => ∃ (q : Option Addr) (cap : Nat), v = .slice q (runLow (tabT ms) cs l).length cap ∧ OwnN w.heap.size w' q 76 5 cap (runLow (tabT ms) cs l).length ((runLow (tabT ms) cs l).flatMap Cl.cells) ∧ w.grownBy w' none) := by
 refine calls_of_wpf (n := 36) Try.func47 rfl Try.ntmps47 rfl ?_
 have hb0 := World.grownBy.refl w none
 refine wpf_seq_region ?_
 refine wpo_box (v := .agg #[.int .i64 l.s, .int .i64 l.v]) (cs := #[.int .i64 l.s, .int .i64 l.v]) rfl rfl rfl ?_
 intro B101 w102 hN103
 have hlB101 := hN_ge hN103 hb0
 have hb104 := low0 hb0 hN103.grw
 refine wpo_assign (v := .slice none 0 0) rfl rfl ?_
 refine wpo_nil ?_
 refine wpf_seq ?_
 refine wpf_seq_region_mid (fun f' w' => (f' 0 = .slice a ms.length c ∧ f' 1 = .slice b cs.length e ∧ f' 5 = .pointer (some ⟨B101, 0, none⟩) ∧ f' 6 = .slice none 0 0 ∧ f' 18 = .bool ((!scriptOk (tabT ms) cs) || (!labelOk l))) ∧ w102.grownBy w' none) ?_ ?_
 ·
  refine wpo_move (v := .slice a ms.length c) rfl rfl ?_
  refine wpo_move (v := .slice b cs.length e) rfl rfl ?_
  refine wpo_call (vs := [.slice a ms.length c, .slice b cs.length e]) gf_93 (args_cons rfl (args_cons rfl args_nil)) rfl (scriptOk_c  _ ms _ _ (TabAt.low ht hb104) hlen (by omega) cs _ _ (SlAt.low hs hb104) (by first | omega | exact Nat.le_of_ble_eq_true rfl | (simp only [List.length_nil, List.length_cons, List.length_append, List.length_replicate]; omega))) ?_
  rintro _ w115 ⟨rfl, hg116⟩
  have hb117 := low0 hb104 hg116
  refine wpo_not (b' := !scriptOk (tabT ms) cs) rfl rfl rfl ?_
  refine wpo_move (v := .bool (!scriptOk (tabT ms) cs)) rfl rfl ?_
  rcases bcases (!scriptOk (tabT ms) cs) with h118 | h118
  ·
   have h119 := nt_t h118
   iterate 3 refine wpo_pass rfl rfl rfl h118 rfl ?_
   refine wpo_pickt (v := .bool true) rfl h118 rfl rfl ?_
   exact wpo_nil ⟨⟨rfl, rfl, rfl, rfl, (congrArg Value.bool (by first | (simp only [h118, h119, b0, b1, b2, b3, b4, b5, b6, b7, b8, b9]; done) | simp [h118, h119]))⟩, hg116⟩
  ·
   have h120 := nt_f h118
   have hrun121 := script_run h120
   have htk122 := (script_parts h120).1
   refine wpo_run rfl rfl rfl h118 ?_
   have k123 := (hN103.blk.grown0 hg116)
   refine wpo_loadn (vs := [.int .i64 l.s, .int .i64 l.v]) rt_40 rfl rfl (k123.rangeL 0 2 rfl) rfl ?_
   refine wpo_run rfl rfl rfl h118 ?_
   refine wpo_call (vs := [.agg #[.int .i64 l.s, .int .i64 l.v]]) gf_70 (args_cons rfl args_nil) rfl (LabelOk_c l _) ?_
   rintro _ w124 ⟨rfl, hg125⟩
   have hb126 := low0 hb117 hg125
   refine wpo_run rfl rfl rfl h118 ?_
   refine wpo_not (b' := !labelOk l) rfl rfl rfl ?_
   refine wpo_pickf (v := .bool (!labelOk l)) rfl h118 rfl rfl ?_
   exact wpo_nil ⟨⟨rfl, rfl, rfl, rfl, (congrArg Value.bool (by first | (simp only [h118, h120, htk122, b0, b1, b2, b3, b4, b5, b6, b7, b8, b9]; done) | simp [h118, h120, htk122]))⟩, (grown_trans hg116 hg125)⟩
 ·
  rintro f127 w128 ⟨⟨e129, e130, e131, e132, e133⟩, hg134⟩
  have hb135 := low0 hb104 hg134
  refine wpf_cond e133 (fun h136 => ?_) (fun h136 => ?_)
  ·
   refine wpf_seq_region ?_
   refine wpo_assign (v := .slice none 0 0) rfl rfl ?_
   refine wpo_nil ?_
   refine wpf_ret ?_
   refine thn_r ?_
   have hrl : runLow (tabT ms) cs l = [] := runLow_no h136
   refine ⟨.slice none 0 0, res1 rfl rfl, none, 0, by rw [hrl]; rfl, by rw [hrl]; exact OwnN.nil, hb135⟩
  ·
   have h137 := or_l h136
   have h138 := nt_f h137
   have hrun139 := script_run h138
   have htk140 := (script_parts h138).1
   have h141 := or_r h136
   have h142 := nt_f h141
   refine wpf_skip ?_
   refine thn_n ?_
   refine wpf_seq_region ?_
   refine wpo_assign (v := .slice none 0 0) rfl rfl ?_
   refine wpo_nil ?_
   refine wpf_seq ?_
   refine wpf_seq_region ?_
   refine wpo_move (v := .slice b cs.length e) e130 rfl ?_
   refine wpo_len (by kernel_rfl) rfl rfl ?_
   refine wpo_move (v := .int .i64 0) rfl rfl ?_
   refine wpo_nil ?_
   refine wpf_block ?_
   have k143 := (hN103.blk.grown0 hg134)
   refine wpf_loopN (fun mm f' w' => ∃ (k : Nat) (aq : Option Addr) (cq : Nat) (ys : List Cl), mm = cs.length - k ∧ k ≤ cs.length ∧ ys = (cs.take k).filter (lowOf (tabT ms) l) ∧ ys.length ≤ k ∧ OwnN w.heap.size w' aq 76 5 cq ys.length (ys.flatMap Cl.cells) ∧ f' 7 = .slice aq ys.length cq ∧ f' 21 = .int .i64 (k : Int) ∧ f' 0 = .slice a ms.length c ∧ f' 5 = .pointer (some ⟨B101, 0, none⟩) ∧ f' 6 = .slice none 0 0 ∧ f' 19 = .slice b cs.length e ∧ f' 20 = .int .i64 (cs.length : Int) ∧ w.grownBy w' none ∧ Blk w' B101 40 #[.int .i64 l.s, .int .i64 l.v]) (cs.length - 0) ⟨0, none, 0, ([] : List Cl), rfl, (Nat.zero_le _), rfl, (Nat.le_refl 0), OwnN.nil, rfl, rfl, e129, e131, e132, rfl, rfl, hb135, k143⟩ ?_
   rintro mm f144 w145 ⟨k, aq, cq, ys, hm147, hk, hys, hyl, hOwn, e148, e149, e150, e151, e152, e153, e154, hb146, k155⟩
   refine wpf_seq_region ?_
   refine wpo_lss (q := decide ((k : Int) < (cs.length : Int))) e149 e154 rfl rfl ?_
   refine wpo_nil ?_
   refine wpf_seq ?_
   refine wpf_cond rfl (fun h156 => ?_) (fun h156 => ?_)
   ·
    have h157 := of_decide_eq_true h156
    refine wpf_skip ?_
    refine thn_n ?_
    refine wpf_seq ?_
    refine wpf_block ?_
    refine wpf_seq_region ?_
    obtain ⟨b160, q161, o162, ha163, ho164, hr165⟩ := SlAt.at (SlAt.low hs hb146) (map_get (cAt_get (show k < cs.length by omega)))
    have hcf166 := hrun139 k (show k < cs.length by omega)
    refine wpo_indexE es_69 e153 e149 ha163 ho164 (by omega) (by omega) rfl ?_
    refine wpo_loadn (vs := [.int .i64 ((cAt cs k).kind), .int .i64 ((cAt cs k).run), .int .i64 ((cAt cs k).a), .int .i64 ((cAt cs k).b), .int .i64 ((cAt cs k).n)]) rt_76 rfl rfl (range_sub hr165 0 5 rfl) rfl ?_
    refine wpo_alloc (cs := #[.int .i64 0, .int .i64 0, .int .i64 0, .int .i64 0, .int .i64 0]) zt_76 rfl rfl ?_
    intro B167 w168 hN169
    have hlB167 := hN_ge hN169 hb146
    have lt_B101_B167 := hN_gtl hN169 (k155).lt
    have hb170 := low0 hb146 hN169.grw
    refine wpo_storen (vs := [.int .i64 ((cAt cs k).kind), .int .i64 ((cAt cs k).run), .int .i64 ((cAt cs k).a), .int .i64 ((cAt cs k).b), .int .i64 ((cAt cs k).n)]) (cs' := #[.int .i64 ((cAt cs k).kind), .int .i64 ((cAt cs k).run), .int .i64 ((cAt cs k).a), .int .i64 ((cAt cs k).b), .int .i64 ((cAt cs k).n)]) rt_76 rfl rfl rfl (by simp [Value.oneCell']) hN169.blk (Nat.le_of_ble_eq_true rfl) rfl ?_
    intro w171 hS172
    have hb173 := low1 hb170 hS172.grw (by omega)
    refine wpo_nil ?_
    refine wpf_seq_region ?_
    refine wpo_move (v := .slice a ms.length c) e150 rfl ?_
    refine wpo_fieldAddr (o' := 1) fo_76_1 rfl rfl rfl ?_
    refine wpo_load1 (v := .int .i64 ((cAt cs k).run)) ot_3 rfl (hS172.blk.cell rfl) rfl ?_
    have k174 := ((k155.grown0 hN169.grw).grown hS172.grw (some_ne (by omega)))
    refine wpo_loadn (vs := [.int .i64 l.s, .int .i64 l.v]) rt_40 e151 rfl (k174.rangeL 0 2 rfl) rfl ?_
    refine wpo_call (vs := [.slice a ms.length c, .int .i64 ((cAt cs k).run), .agg #[.int .i64 l.s, .int .i64 l.v]]) gf_94 (args_cons rfl (args_cons rfl (args_cons rfl args_nil))) rfl (runLow1_c ((cAt cs k).run) l _ ms _ _ (TabAt.low ht hb173) hlen (by omega) (by omega)) ?_
    rintro _ w175 ⟨rfl, hg176⟩
    have hb177 := low0 hb173 hg176
    refine wpo_nil ?_
    refine wpf_cond rfl (fun h178 => ?_) (fun h178 => ?_)
    ·
     refine wpf_region ?_
     refine wpo_move (v := .slice aq ys.length cq) e148 rfl ?_
     have k179 := (hS172.blk.grown0 hg176)
     refine wpo_loadn (vs := [.int .i64 ((cAt cs k).kind), .int .i64 ((cAt cs k).run), .int .i64 ((cAt cs k).a), .int .i64 ((cAt cs k).b), .int .i64 ((cAt cs k).n)]) rt_76 rfl rfl (k179.rangeL 0 5 rfl) rfl ?_
     refine wpo_buildSlice (ps := [(0, .agg #[.int .i64 ((cAt cs k).kind), .int .i64 ((cAt cs k).run), .int .i64 ((cAt cs k).a), .int .i64 ((cAt cs k).b), .int .i64 ((cAt cs k).n)])]) (e := 76) (cs := (([(cAt cs k)] : List Cl).flatMap Cl.cells).toArray) (parts_cons rfl parts_nil) (fun _ => by kernel_rfl) rfl ?_
     intro B180 w181 hN182
     have hlB180 := hN_ge hN182 hb177
     have k183 := (k174.grown0 hg176)
     have lt_B101_B180 := hN_gtl hN182 (k183).lt
     have lt_B167_B180 := hN_gtl hN182 (k179).lt
     have hb184 := low0 hb177 hN182.grw
     have hO185 := (hOwn.grown0 (low0 (low0 (low1 hN169.grw hS172.grw (Nat.le_trans ((World.grownBy.refl _ none)).size (Nat.le_of_eq hN169.eq.symm))) hg176) hN182.grw))
     refine wpo_appendN (g := Cl.cells) (ys := ys) (zs := ([(cAt cs k)] : List Cl)) (lo := w.heap.size) mk_69 rfl wide_cl (by omega) onec_cl rfl rfl hO185 (rows_sl wide_cl hN182.blk) (fun h => by cases h) (by first | omega | exact Nat.le_of_ble_eq_true rfl | (simp only [List.length_nil, List.length_cons, List.length_append, List.length_replicate]; omega)) (by omega) (by first | exact hb184.size | omega) rfl ?_
     have k192 := (k183.grown0 hN182.grw)
     have k193 := (k179.grown0 hN182.grw)
     intro a186 cap187 w188 hO189 hg190 hor191
     have hb194 := lowN hb184 hO185 hg190 (by omega)
     refine wpo_assign (v := .slice a186 ((ys ++ ([(cAt cs k)] : List Cl)).length) cap187) rfl rfl ?_
     refine wpo_nil ?_
     refine blk_n ?_
     refine thn_n ?_
     refine wpf_region ?_
     refine wpo_add (c := (k : Int) + 1) e149 rfl (by omega) (by omega) (by omega) rfl ?_
     refine wpo_move (v := .int .i64 ((k : Int) + 1)) rfl rfl ?_
     refine wpo_nil ?_
     refine thn_n ?_
     have k195 := (Blk.typN k192 hO185 hg190 (by decide))
     exact ⟨cs.length - (k + 1), by omega, (k + 1), a186, cap187, (ys ++ ([(cAt cs k)] : List Cl)), rfl, (by omega), (filter_t hys (cAt_get (by omega)) ((low_i (l := l) htk140 h142 (by omega) (by omega)).symm.trans h178)), (by first | omega | (simp only [List.length_append, List.length_cons, List.length_nil]; omega)), hO189, rfl, rfl, e150, e151, e152, e153, e154, hb194, k195⟩
    ·
     refine wpf_skip ?_
     refine blk_n ?_
     refine thn_n ?_
     refine wpf_region ?_
     refine wpo_add (c := (k : Int) + 1) e149 rfl (by omega) (by omega) (by omega) rfl ?_
     refine wpo_move (v := .int .i64 ((k : Int) + 1)) rfl rfl ?_
     refine wpo_nil ?_
     refine thn_n ?_
     have k196 := (k174.grown0 hg176)
     exact ⟨cs.length - (k + 1), by omega, (k + 1), aq, cq, ys, rfl, (by omega), (filter_f hys (cAt_get (by omega)) ((low_i (l := l) htk140 h142 (by omega) (by omega)).symm.trans h178)), (by first | omega | (simp only [List.length_append, List.length_cons, List.length_nil]; omega)), (hOwn.grown0 (low0 (low1 hN169.grw hS172.grw (Nat.le_trans ((World.grownBy.refl _ none)).size (Nat.le_of_eq hN169.eq.symm))) hg176)), e148, rfl, e150, e151, e152, e153, e154, hb177, k196⟩
   ·
    have h197 := of_decide_eq_false h156
    refine wpf_exit ?_
    refine thn_e ?_
    refine thn_e ?_
    refine blk_e ?_
    refine thn_n ?_
    refine wpf_seq_region ?_
    refine wpo_move (v := .slice aq ys.length cq) e148 rfl ?_
    refine wpo_assign (v := .slice aq ys.length cq) rfl rfl ?_
    refine wpo_nil ?_
    refine wpf_ret ?_
    have hrl : runLow (tabT ms) cs l = ys := runLow_yes h136 hys (by omega)
    refine ⟨.slice aq ys.length cq, res1 rfl rfl, aq, cq, by rw [hrl], ?_, hb146⟩
    rw [hrl]
    exact hOwn
theorem l3Copy_c (w : World) (ms : List MTh) (a : Option Addr) (c : Nat) (ht : TabAt w a ms) (hlen : TabLen ms) (hn : ms.length ≤ 1048576) : CallsR Try.prog 112 #[.slice a ms.length c] w (fun v w' => ∃ (B cap : Nat) (ys : List MTh), v = .slice (some ⟨B, 0, none⟩) ys.length cap ∧ tabT ys = tabT ms ∧ w.heap.size ≤ B ∧ Dw.Own w' B 45 8 cap ys.length (ys.flatMap MTh.cells) ∧ RowsO 29 3 w.heap.size w' ys ∧ w.grownBy w' none) := by
 refine calls_of_wpf (n := 32) Try.func112 rfl Try.ntmps112 rfl ?_
 have hb0 := World.grownBy.refl w none
 refine wpf_seq_region ?_
 refine wpo_assign (v := .slice none 0 0) rfl rfl ?_
 refine wpo_nil ?_
 refine wpf_seq_region ?_
 refine wpo_buildSlice (ps := []) (e := 45) (cs := (([] : List MTh).flatMap MTh.cells).toArray) parts_nil (fun _ => by kernel_rfl) rfl ?_
 intro B101 w102 hN103
 have hlB101 := hN_ge hN103 hb0
 have hb104 := low0 hb0 hN103.grw
 refine wpo_assign (v := .slice (some ⟨B101, 0, none⟩) 0 0) rfl rfl ?_
 refine wpo_nil ?_
 refine wpf_seq ?_
 refine wpf_seq_region ?_
 refine wpo_assign (v := .int .i64 0) rfl rfl ?_
 refine wpo_nil ?_
 refine wpf_block ?_
 refine wpf_loopN (fun mm f' w' => ∃ (k : Nat) (Bt : Nat) (ct : Nat) (ys : List MTh), mm = ms.length - k ∧ k ≤ ms.length ∧ ys.length = k ∧ tabT ys = (tabT ms).take k ∧ RowsO 29 3 w.heap.size w' ys ∧ Dw.Own w' Bt 45 8 ct ys.length (ys.flatMap MTh.cells) ∧ w.heap.size ≤ Bt ∧ f' 3 = .slice (some ⟨Bt, 0, none⟩) ys.length ct ∧ f' 4 = .int .i64 (k : Int) ∧ f' 0 = .slice a ms.length c ∧ f' 2 = .slice none 0 0 ∧ w.grownBy w' none) (ms.length - 0) ⟨0, B101, 0, ([] : List MTh), rfl, (Nat.zero_le _), rfl, rfl, RowsO.nil, (Own.rows wide_mth hN103.blk (by simp)), hlB101, rfl, rfl, rfl, rfl, hb104⟩ ?_
 rintro mm f105 w106 ⟨k, Bt, ct, ys, hm108, hk, hyk, hyt, hRO, hOt, hlBt, e109, e110, e111, e112, hb107⟩
 obtain ⟨hi, hhi⟩ : ∃ n, n = w106.heap.size := ⟨_, rfl⟩
 have hH3 := RowsO.hi hRO
 rw [← hhi] at hH3
 have hhw : w.heap.size ≤ hi := by rw [hhi]; exact hb107.size
 have hbt3 := hOt.lt
 refine wpf_seq ?_
 refine wpf_seq_region ?_
 refine wpo_move (v := .int .i64 (k : Int)) e110 rfl ?_
 refine wpo_move (v := .slice a ms.length c) e111 rfl ?_
 refine wpo_len (by kernel_rfl) rfl rfl ?_
 refine wpo_lss (q := decide ((k : Int) < (ms.length : Int))) rfl rfl rfl rfl ?_
 refine wpo_nil ?_
 refine wpf_cond rfl (fun h113 => ?_) (fun h113 => ?_)
 ·
  have h114 := of_decide_eq_true h113
  refine wpf_skip ?_
  refine thn_n ?_
  refine wpf_seq ?_
  refine wpf_block ?_
  refine wpf_seq_region ?_
  refine wpo_move (v := .slice a ms.length c) e111 rfl ?_
  refine wpo_move (v := .int .i64 (k : Int)) e110 rfl ?_
  obtain ⟨b117, q118, o119, ha120, ho121, hr122⟩ := SlAt.at (TabAt.low ht hb107).1 (map_get (mAt_get (show k < ms.length by omega)))
  have hle123 := TabLen.at hlen (mAt_get (show k < ms.length by omega))
  refine wpo_indexE es_54 rfl rfl ha120 ho121 (by omega) (by omega) rfl ?_
  refine wpo_loadn (vs := [.int .i64 ((mAt ms k).t.kind), .int .i64 ((mAt ms k).t.lab.s), .int .i64 ((mAt ms k).t.lab.v), .int .i64 ((mAt ms k).t.ve), .int .i64 ((mAt ms k).t.num), .slice ((mAt ms k).sa) ((mAt ms k).t.slots.length) ((mAt ms k).sc), .slice ((mAt ms k).qa) ((mAt ms k).t.queue.length) ((mAt ms k).qc), .int .i64 ((mAt ms k).t.to)]) rt_45 rfl rfl (range_sub hr122 0 8 rfl) rfl ?_
  refine wpo_alloc (cs := #[.int .i64 0, .int .i64 0, .int .i64 0, .int .i64 0, .int .i64 0, .slice none 0 0, .slice none 0 0, .int .i64 0]) zt_45 rfl rfl ?_
  intro B124 w125 hN126
  have hlB124 := hN_ge hN126 hb107
  have hhiB124 : hi ≤ B124 := Nat.le_trans (Nat.le_of_eq hhi) (Nat.le_of_eq hN126.eq.symm)
  have lt_Bt_B124 := hN_gtl hN126 (hOt).lt
  have hb127 := low0 hb107 hN126.grw
  refine wpo_storen (vs := [.int .i64 ((mAt ms k).t.kind), .int .i64 ((mAt ms k).t.lab.s), .int .i64 ((mAt ms k).t.lab.v), .int .i64 ((mAt ms k).t.ve), .int .i64 ((mAt ms k).t.num), .slice ((mAt ms k).sa) ((mAt ms k).t.slots.length) ((mAt ms k).sc), .slice ((mAt ms k).qa) ((mAt ms k).t.queue.length) ((mAt ms k).qc), .int .i64 ((mAt ms k).t.to)]) (cs' := #[.int .i64 ((mAt ms k).t.kind), .int .i64 ((mAt ms k).t.lab.s), .int .i64 ((mAt ms k).t.lab.v), .int .i64 ((mAt ms k).t.ve), .int .i64 ((mAt ms k).t.num), .slice ((mAt ms k).sa) ((mAt ms k).t.slots.length) ((mAt ms k).sc), .slice ((mAt ms k).qa) ((mAt ms k).t.queue.length) ((mAt ms k).qc), .int .i64 ((mAt ms k).t.to)]) rt_45 rfl rfl rfl (by simp [Value.oneCell']) hN126.blk (Nat.le_of_ble_eq_true rfl) rfl ?_
  intro w128 hS129
  have hb130 := low1 hb127 hS129.grw (by omega)
  refine wpo_nil ?_
  refine wpf_seq_region ?_
  refine wpo_buildSlice (ps := []) (e := 29) (cs := (([] : List Rt).flatMap Rt.cells).toArray) parts_nil (fun _ => by kernel_rfl) rfl ?_
  intro B131 w132 hN133
  have hlB131 := hN_ge hN133 hb130
  have hhiB131 : hi ≤ B131 := Nat.le_trans (Nat.le_trans (Nat.le_trans (Nat.le_of_eq hhi) hN126.grw.size) hS129.grw.size) (Nat.le_of_eq hN133.eq.symm)
  have k134 := ((hOt.grown0 hN126.grw).grown hS129.grw (some_ne (by omega)))
  have lt_Bt_B131 := hN_gtl hN133 (k134).lt
  have lt_B124_B131 := hN_gtl hN133 (hS129.blk).lt
  have hb135 := low0 hb130 hN133.grw
  refine wpo_fieldAddr (o' := 5) fo_45_4 rfl rfl rfl ?_
  have k136 := (hS129.blk.grown0 hN133.grw)
  refine wpo_load1 (v := .slice ((mAt ms k).sa) ((mAt ms k).t.slots.length) ((mAt ms k).sc)) ot_27 rfl (k136.cell rfl) rfl ?_
  have k137 := (k134.grown0 hN133.grw)
  refine wpo_appendN (g := Rt.cells) (ys := ([])) (zs := ((mAt ms k).t.slots)) (lo := hi) mk_27 rfl wide_rt (by omega) onec_rt rfl rfl (OwnN.of (Own.rows wide_rt hN133.blk (by simp)) hhiB131) (TabAt.th (TabAt.low ht hb135) (mAt_get (show k < ms.length by omega))).1 (TabAt.th (TabAt.low ht hb135) (mAt_get (show k < ms.length by omega))).2.2.1 (by first | omega | exact Nat.le_of_ble_eq_true rfl | (simp only [List.length_nil, List.length_cons, List.length_append, List.length_replicate]; omega) | (simp only [List.length_drop, List.length_nil]; omega)) (by omega) (Nat.le_trans (Nat.le_trans (Nat.le_trans (Nat.le_of_eq hhi) hN126.grw.size) hS129.grw.size) hN133.grw.size) rfl ?_
  intro a138 cap139 w140 hO141 hg142 hor143
  have hg144 : World.grownBy w132 w140 (some B131) := hg142
  have hb145 := low1 hb135 hg144 (by omega)
  refine wpo_fieldAddr (o' := 5) fo_45_4 rfl rfl rfl ?_
  have k146 := (k136.grown hg144 (some_ne (by omega)))
  refine wpo_store1 (v := .slice a138 (((mAt ms k).t.slots).length) cap139) (cs' := #[.int .i64 ((mAt ms k).t.kind), .int .i64 ((mAt ms k).t.lab.s), .int .i64 ((mAt ms k).t.lab.v), .int .i64 ((mAt ms k).t.ve), .int .i64 ((mAt ms k).t.num), .slice a138 (((mAt ms k).t.slots).length) cap139, .slice ((mAt ms k).qa) ((mAt ms k).t.queue.length) ((mAt ms k).qc), .int .i64 ((mAt ms k).t.to)]) ot_27 rfl rfl rfl k146 (Nat.le_of_ble_eq_true rfl) rfl ?_
  intro w147 hS148
  have hb149 := low1 hb145 hS148.grw (by omega)
  refine wpo_nil ?_
  refine wpf_seq_region ?_
  refine wpo_buildSlice (ps := []) (e := 3) (cs := (([] : List Int).flatMap icell).toArray) parts_nil (fun _ => by kernel_rfl) rfl ?_
  intro B150 w151 hN152
  have hlB150 := hN_ge hN152 hb149
  have hhiB150 : hi ≤ B150 := Nat.le_trans (Nat.le_trans (Nat.le_trans (Nat.le_trans (Nat.le_trans (Nat.le_trans (Nat.le_of_eq hhi) hN126.grw.size) hS129.grw.size) hN133.grw.size) hg144.size) hS148.grw.size) (Nat.le_of_eq hN152.eq.symm)
  have k153 := ((k137.grown hg144 (some_ne (by omega))).grown hS148.grw (some_ne (by omega)))
  have lt_Bt_B150 := hN_gtl hN152 (k153).lt
  have lt_B124_B150 := hN_gtl hN152 (hS148.blk).lt
  have hb154 := low0 hb149 hN152.grw
  refine wpo_fieldAddr (o' := 6) fo_45_5 rfl rfl rfl ?_
  have k155 := (hS148.blk.grown0 hN152.grw)
  refine wpo_load1 (v := .slice ((mAt ms k).qa) ((mAt ms k).t.queue.length) ((mAt ms k).qc)) ot_43 rfl (k155.cell rfl) rfl ?_
  have k156 := (k153.grown0 hN152.grw)
  refine wpo_appendN (g := icell) (ys := ([])) (zs := ((mAt ms k).t.queue)) (lo := hi) mk_43 rfl wide_int (by omega) onec_int rfl rfl (OwnN.of (Own.rows wide_int hN152.blk (by simp)) hhiB150) (TabAt.th (TabAt.low ht hb154) (mAt_get (show k < ms.length by omega))).2.1 (TabAt.th (TabAt.low ht hb154) (mAt_get (show k < ms.length by omega))).2.2.2 (by first | omega | exact Nat.le_of_ble_eq_true rfl | (simp only [List.length_nil, List.length_cons, List.length_append, List.length_replicate]; omega) | (simp only [List.length_drop, List.length_nil]; omega)) (by omega) (Nat.le_trans (Nat.le_trans (Nat.le_trans (Nat.le_trans (Nat.le_trans (Nat.le_trans (Nat.le_of_eq hhi) hN126.grw.size) hS129.grw.size) hN133.grw.size) hg144.size) hS148.grw.size) hN152.grw.size) rfl ?_
  intro a157 cap158 w159 hO160 hg161 hor162
  have hg163 : World.grownBy w151 w159 (some B150) := hg161
  have hb164 := low1 hb154 hg163 (by omega)
  refine wpo_fieldAddr (o' := 6) fo_45_5 rfl rfl rfl ?_
  have k165 := (k155.grown hg163 (some_ne (by omega)))
  refine wpo_store1 (v := .slice a157 (((mAt ms k).t.queue).length) cap158) (cs' := #[.int .i64 ((mAt ms k).t.kind), .int .i64 ((mAt ms k).t.lab.s), .int .i64 ((mAt ms k).t.lab.v), .int .i64 ((mAt ms k).t.ve), .int .i64 ((mAt ms k).t.num), .slice a138 (((mAt ms k).t.slots).length) cap139, .slice a157 (((mAt ms k).t.queue).length) cap158, .int .i64 ((mAt ms k).t.to)]) ot_43 rfl rfl rfl k165 (Nat.le_of_ble_eq_true rfl) rfl ?_
  intro w166 hS167
  have hb168 := low1 hb164 hS167.grw (by omega)
  refine wpo_nil ?_
  refine wpf_region ?_
  refine wpo_move (v := .slice (some ⟨Bt, 0, none⟩) ys.length ct) e109 rfl ?_
  refine wpo_loadn (vs := [.int .i64 ((mAt ms k).t.kind), .int .i64 ((mAt ms k).t.lab.s), .int .i64 ((mAt ms k).t.lab.v), .int .i64 ((mAt ms k).t.ve), .int .i64 ((mAt ms k).t.num), .slice a138 (((mAt ms k).t.slots).length) cap139, .slice a157 (((mAt ms k).t.queue).length) cap158, .int .i64 ((mAt ms k).t.to)]) rt_45 rfl rfl (hS167.blk.rangeL 0 8 rfl) rfl ?_
  refine wpo_buildSlice (ps := [(0, .agg #[.int .i64 ((mAt ms k).t.kind), .int .i64 ((mAt ms k).t.lab.s), .int .i64 ((mAt ms k).t.lab.v), .int .i64 ((mAt ms k).t.ve), .int .i64 ((mAt ms k).t.num), .slice a138 (((mAt ms k).t.slots).length) cap139, .slice a157 (((mAt ms k).t.queue).length) cap158, .int .i64 ((mAt ms k).t.to)])]) (e := 45) (cs := (([(⟨⟨(mAt ms k).t.kind, ((mAt ms k).t.lab), (mAt ms k).t.ve, (mAt ms k).t.num, ((mAt ms k).t.slots), ((mAt ms k).t.queue), (mAt ms k).t.to⟩, a138, cap139, a157, cap158⟩ : MTh)] : List MTh).flatMap MTh.cells).toArray) (parts_cons rfl parts_nil) (fun _ => by kernel_rfl) rfl ?_
  intro B169 w170 hN171
  have hlB169 := hN_ge hN171 hb168
  have hhiB169 : hi ≤ B169 := Nat.le_trans (Nat.le_trans (Nat.le_trans (Nat.le_trans (Nat.le_trans (Nat.le_trans (Nat.le_trans (Nat.le_trans (Nat.le_trans (Nat.le_of_eq hhi) hN126.grw.size) hS129.grw.size) hN133.grw.size) hg144.size) hS148.grw.size) hN152.grw.size) hg163.size) hS167.grw.size) (Nat.le_of_eq hN171.eq.symm)
  have k172 := ((k156.grown hg163 (some_ne (by omega))).grown hS167.grw (some_ne (by omega)))
  have lt_Bt_B169 := hN_gtl hN171 (k172).lt
  have lt_B124_B169 := hN_gtl hN171 (hS167.blk).lt
  have hb173 := low0 hb168 hN171.grw
  have k174 := (k172.grown0 hN171.grw)
  have k175 := (hS167.blk.grown0 hN171.grw)
  refine wpo_append (g := MTh.cells) (ys := ys) (zs := ([(⟨⟨(mAt ms k).t.kind, ((mAt ms k).t.lab), (mAt ms k).t.ve, (mAt ms k).t.num, ((mAt ms k).t.slots), ((mAt ms k).t.queue), (mAt ms k).t.to⟩, a138, cap139, a157, cap158⟩ : MTh)] : List MTh)) mk_54 rfl wide_mth (by omega) onec_mth rfl rfl k174 (rows_sl wide_mth hN171.blk) (by simp only [List.length_cons, List.length_nil]; omega) (by omega) rfl ?_
  intro B176 cap177 w178 hO179 hg180 hor181
  have hlB176 : w.heap.size ≤ B176 := by rcases hor181 with h | h; (rw [h]; exact hlBt); (rw [h]; exact hb173.size)
  have ne_B124_B176 : B124 ≠ B176 := by have h := (k175).lt; omega
  have ne_B169_B176 : B169 ≠ B176 := by have h := (hN171.blk).lt; omega
  have hb182 := low1 hb173 hg180 (by omega)
  refine wpo_assign (v := .slice (some ⟨B176, 0, none⟩) ((ys ++ ([(⟨⟨(mAt ms k).t.kind, ((mAt ms k).t.lab), (mAt ms k).t.ve, (mAt ms k).t.num, ((mAt ms k).t.slots), ((mAt ms k).t.queue), (mAt ms k).t.to⟩, a138, cap139, a157, cap158⟩ : MTh)] : List MTh)).length) cap177) rfl rfl ?_
  refine wpo_nil ?_
  refine blk_n ?_
  refine thn_n ?_
  refine wpf_region ?_
  refine wpo_move (v := .int .i64 (k : Int)) e110 rfl ?_
  refine wpo_add (c := (k : Int) + 1) rfl rfl (by omega) (by omega) (by omega) rfl ?_
  refine wpo_assign (v := .int .i64 ((k : Int) + 1)) rfl rfl ?_
  refine wpo_nil ?_
  refine thn_n ?_
  have hS183 := (OwnN.typ ((OwnN.typB (OwnN.typ ((OwnN.typB hO141 hS148.grw k146 (by decide)).grown0 hN152.grw) hg163 (Own.rows wide_int hN152.blk (by simp)) (by decide)) hS167.grw k165 (by decide)).grown0 hN171.grw) hg180 k174 (by decide))
  exact ⟨ms.length - (k + 1), by omega, (k + 1), B176, cap177, (ys ++ ([(⟨⟨(mAt ms k).t.kind, ((mAt ms k).t.lab), (mAt ms k).t.ve, (mAt ms k).t.num, ((mAt ms k).t.slots), ((mAt ms k).t.queue), (mAt ms k).t.to⟩, a138, cap139, a157, cap158⟩ : MTh)] : List MTh)), rfl, (by omega), (by rw [List.length_append, hyk]; rfl), (tabT_snoc hyt (mAt_get (show k < ms.length by omega)) rfl), (RowsO.snoc (RowsO.own (RowsO.low (RowsO.ge (RowsO.ge (RowsO.low (RowsO.ge (RowsO.ge (RowsO.low (RowsO.ge (RowsO.low hRO hN126.grw) hS129.grw hH3 (by omega)) hN133.grw) hg144 hH3 (by omega)) hS148.grw hH3 (by omega)) hN152.grw) hg163 hH3 (by omega)) hS167.grw hH3 (by omega)) hN171.grw) hg180 k174 (by decide) (by decide)) ⟨OwnN.mono (OwnN.typ ((OwnN.typB (OwnN.typ ((OwnN.typB hO141 hS148.grw k146 (by decide)).grown0 hN152.grw) hg163 (Own.rows wide_int hN152.blk (by simp)) (by decide)) hS167.grw k165 (by decide)).grown0 hN171.grw) hg180 k174 (by decide)) hhw, OwnN.mono (OwnN.typ ((OwnN.typB hO160 hS167.grw k165 (by decide)).grown0 hN171.grw) hg180 k174 (by decide)) hhw⟩ hH3 (fun S e => (ownN_hi hS183 e).2)), hO179, hlB176, rfl, rfl, e111, e112, hb182⟩
 ·
  have h184 := of_decide_eq_false h113
  refine wpf_exit ?_
  refine thn_e ?_
  refine thn_e ?_
  refine blk_e ?_
  refine thn_n ?_
  refine wpf_seq_region ?_
  refine wpo_move (v := .slice (some ⟨Bt, 0, none⟩) ys.length ct) e109 rfl ?_
  refine wpo_assign (v := .slice (some ⟨Bt, 0, none⟩) ys.length ct) rfl rfl ?_
  refine wpo_nil ?_
  refine wpf_ret ?_
  exact ⟨.slice (some ⟨Bt, 0, none⟩) ys.length ct, res1 rfl rfl, Bt, ct, ys, rfl, tabT_all hyt (by omega), hlBt, hOt, hRO, hb107⟩
theorem l12Far_c (q : Cl) (r : Rt) (lo B cap : Nat) (ms : List MTh) (w : World) (hB : Dw.Own w B 45 8 cap ms.length (ms.flatMap MTh.cells)) (hR : RowsO 29 3 lo w ms) (hlo : lo ≤ B) (hi : Nat) (hH : HiO hi ms) (hBlt : B < hi) (hhi : hi ≤ w.heap.size) (hF : FarOk (tabT ms) q r) : CallsR Try.prog 121 #[.slice (some ⟨B, 0, none⟩) ms.length cap, .agg #[.int .i64 q.kind, .int .i64 q.run, .int .i64 q.a, .int .i64 q.b, .int .i64 q.n], .agg #[.int .i64 r.th, .int .i64 r.ve, .bool r.rd, .bool r.wr, .bool r.wk]] w (fun v w' => ∃ ms' : List MTh, v = .int .i64 (far (tabT ms) q r).2 ∧ ms'.length = ms.length ∧ Dw.Own w' B 45 8 cap ms'.length (ms'.flatMap MTh.cells) ∧ RowsO 29 3 lo w' ms' ∧ tabT ms' = (far (tabT ms) q r).1 ∧ KeepsI lo hi [45, 29, 3] w w') := by
 refine calls_of_wpf (n := 143) Try.func121 rfl Try.ntmps121 rfl ?_
 have hb0 : KeepsI lo hi [45, 29, 3] w w := KeepsI.refl w
 have hlow : lo ≤ w.heap.size := by omega
 have hT := hF.tab
 have hco := callOk_iff hF.call
 have hkp := (kindAt_parts hF.run).1
 have h4 := run_slots hT hF.run
 have hth := hF.th
 rw [tabT_len] at hth
 have hml := tab_len hT
 have hkd := kindFor_k hF.kind hco.1
 rw [← mAt_th] at hkd
 have hrow := tab_thing hT (i := (r.th - 1).toNat) (by omega)
 have hln := TabLen.ok hT _ (List.mem_of_getElem? (mAt_get (show (r.th - 1).toNat < ms.length by omega)))
 have hcp := hF.copy
 have hve := ve_le hrow
 refine wpf_seq_region ?_
 refine wpo_box (v := .agg #[.int .i64 q.kind, .int .i64 q.run, .int .i64 q.a, .int .i64 q.b, .int .i64 q.n]) (cs := #[.int .i64 q.kind, .int .i64 q.run, .int .i64 q.a, .int .i64 q.b, .int .i64 q.n]) rfl rfl rfl ?_
 intro B101 w102 hN103
 have hlB101 := hN_geI hN103 hb0
 have lt_B_B101 := hN_gtl hN103 (hB).lt
 have hb104 := KeepsI.low hb0 hN103.grw
 refine wpo_box (v := .agg #[.int .i64 r.th, .int .i64 r.ve, .bool r.rd, .bool r.wr, .bool r.wk]) (cs := #[.int .i64 r.th, .int .i64 r.ve, .bool r.rd, .bool r.wr, .bool r.wk]) rfl rfl rfl ?_
 intro B105 w106 hN107
 have hlB105 := hN_geI hN107 hb104
 have k108 := (hB.grown0 hN103.grw)
 have lt_B_B105 := hN_gtl hN107 (k108).lt
 have lt_B101_B105 := hN_gtl hN107 (hN103.blk).lt
 have hb109 := KeepsI.low hb104 hN107.grw
 refine wpo_assign (v := .int .i64 0) rfl rfl ?_
 refine wpo_nil ?_
 refine wpf_seq_region ?_
 refine wpo_move (v := .slice (some ⟨B, 0, none⟩) ms.length cap) rfl rfl ?_
 refine wpo_fieldAddr (o' := 0) fo_29_0 rfl rfl rfl ?_
 refine wpo_load1 (v := .int .i64 r.th) ot_3 rfl (hN107.blk.cell rfl) rfl ?_
 refine wpo_sub (c := r.th - 1) rfl rfl (by omega) (by omega) (by omega) rfl ?_
 refine wpo_indexAddr (o' := (r.th - 1).toNat * 8) es_54 rfl rfl (by omega) (by omega) (by omega) rfl ?_
 have k110 := (k108.grown0 hN107.grw)
 refine wpo_loadn (vs := [.int .i64 ((mAt ms ((r.th - 1).toNat)).t.kind), .int .i64 ((mAt ms ((r.th - 1).toNat)).t.lab.s), .int .i64 ((mAt ms ((r.th - 1).toNat)).t.lab.v), .int .i64 ((mAt ms ((r.th - 1).toNat)).t.ve), .int .i64 ((mAt ms ((r.th - 1).toNat)).t.num), .slice ((mAt ms ((r.th - 1).toNat)).sa) ((mAt ms ((r.th - 1).toNat)).t.slots.length) ((mAt ms ((r.th - 1).toNat)).sc), .slice ((mAt ms ((r.th - 1).toNat)).qa) ((mAt ms ((r.th - 1).toNat)).t.queue.length) ((mAt ms ((r.th - 1).toNat)).qc), .int .i64 ((mAt ms ((r.th - 1).toNat)).t.to)]) rt_45 rfl rfl (range_sub (Own.range wide_mth k110 (mAt_get (show (r.th - 1).toNat < ms.length by omega))) 0 8 rfl) rfl ?_
 refine wpo_alloc (cs := #[.int .i64 0, .int .i64 0, .int .i64 0, .int .i64 0, .int .i64 0, .slice none 0 0, .slice none 0 0, .int .i64 0]) zt_45 rfl rfl ?_
 intro B111 w112 hN113
 have hlB111 := hN_geI hN113 hb109
 have lt_B_B111 := hN_gtl hN113 (k110).lt
 have k114 := (hN103.blk.grown0 hN107.grw)
 have lt_B101_B111 := hN_gtl hN113 (k114).lt
 have lt_B105_B111 := hN_gtl hN113 (hN107.blk).lt
 have hb115 := KeepsI.low hb109 hN113.grw
 refine wpo_storen (vs := [.int .i64 ((mAt ms ((r.th - 1).toNat)).t.kind), .int .i64 ((mAt ms ((r.th - 1).toNat)).t.lab.s), .int .i64 ((mAt ms ((r.th - 1).toNat)).t.lab.v), .int .i64 ((mAt ms ((r.th - 1).toNat)).t.ve), .int .i64 ((mAt ms ((r.th - 1).toNat)).t.num), .slice ((mAt ms ((r.th - 1).toNat)).sa) ((mAt ms ((r.th - 1).toNat)).t.slots.length) ((mAt ms ((r.th - 1).toNat)).sc), .slice ((mAt ms ((r.th - 1).toNat)).qa) ((mAt ms ((r.th - 1).toNat)).t.queue.length) ((mAt ms ((r.th - 1).toNat)).qc), .int .i64 ((mAt ms ((r.th - 1).toNat)).t.to)]) (cs' := #[.int .i64 ((mAt ms ((r.th - 1).toNat)).t.kind), .int .i64 ((mAt ms ((r.th - 1).toNat)).t.lab.s), .int .i64 ((mAt ms ((r.th - 1).toNat)).t.lab.v), .int .i64 ((mAt ms ((r.th - 1).toNat)).t.ve), .int .i64 ((mAt ms ((r.th - 1).toNat)).t.num), .slice ((mAt ms ((r.th - 1).toNat)).sa) ((mAt ms ((r.th - 1).toNat)).t.slots.length) ((mAt ms ((r.th - 1).toNat)).sc), .slice ((mAt ms ((r.th - 1).toNat)).qa) ((mAt ms ((r.th - 1).toNat)).t.queue.length) ((mAt ms ((r.th - 1).toNat)).qc), .int .i64 ((mAt ms ((r.th - 1).toNat)).t.to)]) rt_45 rfl rfl rfl (by simp [Value.oneCell']) hN113.blk (Nat.le_of_ble_eq_true rfl) rfl ?_
 intro w116 hS117
 have hb118 := KeepsI.new hb115 hS117.grw (by omega)
 refine wpo_nil ?_
 refine wpf_seq_region ?_
 refine wpo_move (v := .slice (some ⟨B, 0, none⟩) ms.length cap) rfl rfl ?_
 refine wpo_fieldAddr (o' := 1) fo_76_1 rfl rfl rfl ?_
 have k119 := ((k114.grown0 hN113.grw).grown hS117.grw (some_ne (by omega)))
 refine wpo_load1 (v := .int .i64 q.run) ot_3 rfl (k119.cell rfl) rfl ?_
 refine wpo_sub (c := q.run - 1) rfl rfl (by omega) (by omega) (by omega) rfl ?_
 refine wpo_indexAddr (o' := (q.run - 1).toNat * 8) es_54 rfl rfl (by omega) (by omega) (by omega) rfl ?_
 have k120 := ((k110.grown0 hN113.grw).grown hS117.grw (some_ne (by omega)))
 refine wpo_loadn (vs := [.int .i64 ((mAt ms ((q.run - 1).toNat)).t.kind), .int .i64 ((mAt ms ((q.run - 1).toNat)).t.lab.s), .int .i64 ((mAt ms ((q.run - 1).toNat)).t.lab.v), .int .i64 ((mAt ms ((q.run - 1).toNat)).t.ve), .int .i64 ((mAt ms ((q.run - 1).toNat)).t.num), .slice ((mAt ms ((q.run - 1).toNat)).sa) ((mAt ms ((q.run - 1).toNat)).t.slots.length) ((mAt ms ((q.run - 1).toNat)).sc), .slice ((mAt ms ((q.run - 1).toNat)).qa) ((mAt ms ((q.run - 1).toNat)).t.queue.length) ((mAt ms ((q.run - 1).toNat)).qc), .int .i64 ((mAt ms ((q.run - 1).toNat)).t.to)]) rt_45 rfl rfl (range_sub (Own.range wide_mth k120 (mAt_get (show (q.run - 1).toNat < ms.length by omega))) 0 8 rfl) rfl ?_
 refine wpo_alloc (cs := #[.int .i64 0, .int .i64 0, .int .i64 0, .int .i64 0, .int .i64 0, .slice none 0 0, .slice none 0 0, .int .i64 0]) zt_45 rfl rfl ?_
 intro B121 w122 hN123
 have hlB121 := hN_geI hN123 hb118
 have lt_B_B121 := hN_gtl hN123 (k120).lt
 have lt_B101_B121 := hN_gtl hN123 (k119).lt
 have k124 := ((hN107.blk.grown0 hN113.grw).grown hS117.grw (some_ne (by omega)))
 have lt_B105_B121 := hN_gtl hN123 (k124).lt
 have lt_B111_B121 := hN_gtl hN123 (hS117.blk).lt
 have hb125 := KeepsI.low hb118 hN123.grw
 refine wpo_storen (vs := [.int .i64 ((mAt ms ((q.run - 1).toNat)).t.kind), .int .i64 ((mAt ms ((q.run - 1).toNat)).t.lab.s), .int .i64 ((mAt ms ((q.run - 1).toNat)).t.lab.v), .int .i64 ((mAt ms ((q.run - 1).toNat)).t.ve), .int .i64 ((mAt ms ((q.run - 1).toNat)).t.num), .slice ((mAt ms ((q.run - 1).toNat)).sa) ((mAt ms ((q.run - 1).toNat)).t.slots.length) ((mAt ms ((q.run - 1).toNat)).sc), .slice ((mAt ms ((q.run - 1).toNat)).qa) ((mAt ms ((q.run - 1).toNat)).t.queue.length) ((mAt ms ((q.run - 1).toNat)).qc), .int .i64 ((mAt ms ((q.run - 1).toNat)).t.to)]) (cs' := #[.int .i64 ((mAt ms ((q.run - 1).toNat)).t.kind), .int .i64 ((mAt ms ((q.run - 1).toNat)).t.lab.s), .int .i64 ((mAt ms ((q.run - 1).toNat)).t.lab.v), .int .i64 ((mAt ms ((q.run - 1).toNat)).t.ve), .int .i64 ((mAt ms ((q.run - 1).toNat)).t.num), .slice ((mAt ms ((q.run - 1).toNat)).sa) ((mAt ms ((q.run - 1).toNat)).t.slots.length) ((mAt ms ((q.run - 1).toNat)).sc), .slice ((mAt ms ((q.run - 1).toNat)).qa) ((mAt ms ((q.run - 1).toNat)).t.queue.length) ((mAt ms ((q.run - 1).toNat)).qc), .int .i64 ((mAt ms ((q.run - 1).toNat)).t.to)]) rt_45 rfl rfl rfl (by simp [Value.oneCell']) hN123.blk (Nat.le_of_ble_eq_true rfl) rfl ?_
 intro w126 hS127
 have hb128 := KeepsI.new hb125 hS127.grw (by omega)
 refine wpo_nil ?_
 refine wpf_seq_region ?_
 refine wpo_assign (v := .int .i64 0) rfl rfl ?_
 refine wpo_nil ?_
 refine wpf_seq ?_
 refine wpf_seq_region ?_
 refine wpo_fieldAddr (o' := 0) fo_76_0 rfl rfl rfl ?_
 have k129 := ((k119.grown0 hN123.grw).grown hS127.grw (some_ne (by omega)))
 refine wpo_load1 (v := .int .i64 q.kind) ot_3 rfl (k129.cell rfl) rfl ?_
 refine wpo_nil ?_
 refine wpf_block ?_
 refine wpf_seq_region ?_
 refine wpo_eql (q := decide (q.kind = 1)) rfl rfl rfl rfl ?_
 refine wpo_assign (v := .bool (decide (q.kind = 1))) rfl rfl ?_
 refine wpo_nil ?_
 refine wpf_cond rfl (fun h130 => ?_) (fun h130 => ?_)
 ·
  have h131 := of_decide_eq_true h130
  refine wpf_seq_region ?_
  refine wpo_fieldAddr (o' := 4) fo_45_3 rfl rfl rfl ?_
  have k132 := ((hS117.blk.grown0 hN123.grw).grown hS127.grw (some_ne (by omega)))
  refine wpo_load1 (v := .int .i64 ((mAt ms ((r.th - 1).toNat)).t.num)) ot_3 rfl (k132.cell rfl) rfl ?_
  refine wpo_assign (v := .int .i64 ((mAt ms ((r.th - 1).toNat)).t.num)) rfl rfl ?_
  refine wpo_nil ?_
  refine wpf_ret ?_
  refine blk_r ?_
  refine thn_r ?_
  have hRO133 := (RowsO.typB (RowsO.low (RowsO.typB (RowsO.low (RowsO.low (RowsO.low hR hN103.grw) hN107.grw) hN113.grw) hS117.grw hN113.blk (by decide) (by decide)) hN123.grw) hS127.grw hN123.blk (by decide) (by decide))
  have k134 := ((k120.grown0 hN123.grw).grown hS127.grw (some_ne (by omega)))
  have hf : far (tabT ms) q r = (tabT (ms), (mAt ms ((r.th - 1).toNat)).t.num) := far_1 h130
  exact ⟨.int .i64 ((mAt ms ((r.th - 1).toNat)).t.num), res1 rfl rfl, ms, by rw [hf], by first | rfl | exact putT_len | (simp only [List.length_set, putT_len]), k134, hRO133, by rw [hf], hb128⟩
 ·
  have h135 := of_decide_eq_false h130
  refine wpf_seq_region ?_
  refine wpo_eql (q := decide (q.kind = 2)) rfl rfl rfl rfl ?_
  refine wpo_assign (v := .bool (decide (q.kind = 2))) rfl rfl ?_
  refine wpo_nil ?_
  refine wpf_cond rfl (fun h136 => ?_) (fun h136 => ?_)
  ·
   have h137 := of_decide_eq_true h136
   refine wpf_region ?_
   refine wpo_fieldAddr (o' := 4) fo_76_4 rfl rfl rfl ?_
   refine wpo_load1 (v := .int .i64 q.n) ot_3 rfl (k129.cell rfl) rfl ?_
   refine wpo_fieldAddr (o' := 4) fo_45_3 rfl rfl rfl ?_
   have k138 := ((hS117.blk.grown0 hN123.grw).grown hS127.grw (some_ne (by omega)))
   refine wpo_store1 (v := .int .i64 q.n) (cs' := #[.int .i64 ((mAt ms ((r.th - 1).toNat)).t.kind), .int .i64 ((mAt ms ((r.th - 1).toNat)).t.lab.s), .int .i64 ((mAt ms ((r.th - 1).toNat)).t.lab.v), .int .i64 ((mAt ms ((r.th - 1).toNat)).t.ve), .int .i64 q.n, .slice ((mAt ms ((r.th - 1).toNat)).sa) ((mAt ms ((r.th - 1).toNat)).t.slots.length) ((mAt ms ((r.th - 1).toNat)).sc), .slice ((mAt ms ((r.th - 1).toNat)).qa) ((mAt ms ((r.th - 1).toNat)).t.queue.length) ((mAt ms ((r.th - 1).toNat)).qc), .int .i64 ((mAt ms ((r.th - 1).toNat)).t.to)]) ot_3 rfl rfl rfl k138 (Nat.le_of_ble_eq_true rfl) rfl ?_
   intro w139 hS140
   have hb141 := KeepsI.new hb128 hS140.grw (by omega)
   refine wpo_nil ?_
   refine blk_n ?_
   refine thn_n ?_
   refine wpf_seq_region ?_
   refine wpo_move (v := .slice (some ⟨B, 0, none⟩) ms.length cap) rfl rfl ?_
   refine wpo_fieldAddr (o' := 0) fo_29_0 rfl rfl rfl ?_
   have k142 := (((k124.grown0 hN123.grw).grown hS127.grw (some_ne (by omega))).grown hS140.grw (some_ne (by omega)))
   refine wpo_load1 (v := .int .i64 r.th) ot_3 rfl (k142.cell rfl) rfl ?_
   refine wpo_sub (c := r.th - 1) rfl rfl (by omega) (by omega) (by omega) rfl ?_
   refine wpo_loadn (vs := [.int .i64 ((mAt ms ((r.th - 1).toNat)).t.kind), .int .i64 ((mAt ms ((r.th - 1).toNat)).t.lab.s), .int .i64 ((mAt ms ((r.th - 1).toNat)).t.lab.v), .int .i64 ((mAt ms ((r.th - 1).toNat)).t.ve), .int .i64 q.n, .slice ((mAt ms ((r.th - 1).toNat)).sa) ((mAt ms ((r.th - 1).toNat)).t.slots.length) ((mAt ms ((r.th - 1).toNat)).sc), .slice ((mAt ms ((r.th - 1).toNat)).qa) ((mAt ms ((r.th - 1).toNat)).t.queue.length) ((mAt ms ((r.th - 1).toNat)).qc), .int .i64 ((mAt ms ((r.th - 1).toNat)).t.to)]) rt_45 rfl rfl (hS140.blk.rangeL 0 8 rfl) rfl ?_
   refine wpo_indexAddr (o' := (r.th - 1).toNat * 8) es_54 rfl rfl (by omega) (by omega) (by omega) rfl ?_
   have k143 := (((k120.grown0 hN123.grw).grown hS127.grw (some_ne (by omega))).grown hS140.grw (some_ne (by omega)))
   have hRO147 := (RowsO.typB (RowsO.typB (RowsO.low (RowsO.typB (RowsO.low (RowsO.low (RowsO.low hR hN103.grw) hN107.grw) hN113.grw) hS117.grw hN113.blk (by decide) (by decide)) hN123.grw) hS127.grw hN123.blk (by decide) (by decide)) hS140.grw k138 (by decide) (by decide))
   refine wpo_storenO (g := MTh.cells) (z' := (⟨⟨(mAt ms ((r.th - 1).toNat)).t.kind, ((mAt ms ((r.th - 1).toNat)).t.lab), (mAt ms ((r.th - 1).toNat)).t.ve, q.n, (mAt ms ((r.th - 1).toNat)).t.slots, (mAt ms ((r.th - 1).toNat)).t.queue, (mAt ms ((r.th - 1).toNat)).t.to⟩, (mAt ms ((r.th - 1).toNat)).sa, (mAt ms ((r.th - 1).toNat)).sc, (mAt ms ((r.th - 1).toNat)).qa, (mAt ms ((r.th - 1).toNat)).qc⟩ : MTh)) rt_45 rfl rfl (onec_mth _) wide_mth k143 (by omega) rfl ?_
   intro w144 hO145 hg146
   have hb148 := KeepsI.own hb141 hg146 k143 (by decide) (by omega) (by omega)
   have hRO149 : RowsO 29 3 lo w144 (ms.set (r.th - 1).toNat (⟨⟨(mAt ms ((r.th - 1).toNat)).t.kind, ((mAt ms ((r.th - 1).toNat)).t.lab), (mAt ms ((r.th - 1).toNat)).t.ve, q.n, (mAt ms ((r.th - 1).toNat)).t.slots, (mAt ms ((r.th - 1).toNat)).t.queue, (mAt ms ((r.th - 1).toNat)).t.to⟩, (mAt ms ((r.th - 1).toNat)).sa, (mAt ms ((r.th - 1).toNat)).sc, (mAt ms ((r.th - 1).toNat)).qa, (mAt ms ((r.th - 1).toNat)).qc⟩ : MTh)) := RowsO.set (RowsO.own hRO147 hg146 k143 (by decide) (by decide)) (show (r.th - 1).toNat < ms.length by omega) ⟨rfl, rfl, rfl⟩ ⟨rfl, rfl, rfl⟩
   refine wpo_nil ?_
   refine wpf_seq_region ?_
   refine wpo_move (v := .int .i64 0) rfl rfl ?_
   refine wpo_assign (v := .int .i64 0) rfl rfl ?_
   refine wpo_nil ?_
   refine wpf_ret ?_
   have hf : far (tabT ms) q r = (tabT (ms.set (r.th - 1).toNat (⟨⟨(mAt ms ((r.th - 1).toNat)).t.kind, ((mAt ms ((r.th - 1).toNat)).t.lab), (mAt ms ((r.th - 1).toNat)).t.ve, q.n, (mAt ms ((r.th - 1).toNat)).t.slots, (mAt ms ((r.th - 1).toNat)).t.queue, (mAt ms ((r.th - 1).toNat)).t.to⟩, (mAt ms ((r.th - 1).toNat)).sa, (mAt ms ((r.th - 1).toNat)).sc, (mAt ms ((r.th - 1).toNat)).qa, (mAt ms ((r.th - 1).toNat)).qc⟩ : MTh)), 0) := far_2 h136 rfl
   exact ⟨.int .i64 0, res1 rfl rfl, ms.set (r.th - 1).toNat (⟨⟨(mAt ms ((r.th - 1).toNat)).t.kind, ((mAt ms ((r.th - 1).toNat)).t.lab), (mAt ms ((r.th - 1).toNat)).t.ve, q.n, (mAt ms ((r.th - 1).toNat)).t.slots, (mAt ms ((r.th - 1).toNat)).t.queue, (mAt ms ((r.th - 1).toNat)).t.to⟩, (mAt ms ((r.th - 1).toNat)).sa, (mAt ms ((r.th - 1).toNat)).sc, (mAt ms ((r.th - 1).toNat)).qa, (mAt ms ((r.th - 1).toNat)).qc⟩ : MTh), by rw [hf], by first | rfl | exact putT_len | (simp only [List.length_set, putT_len]), hO145, hRO149, by rw [hf], hb148⟩
  ·
   have h150 := of_decide_eq_false h136
   refine wpf_seq_region ?_
   refine wpo_eql (q := decide (q.kind = 4)) rfl rfl rfl rfl ?_
   refine wpo_assign (v := .bool (decide (q.kind = 4))) rfl rfl ?_
   refine wpo_nil ?_
   refine wpf_cond rfl (fun h151 => ?_) (fun h151 => ?_)
   ·
    have hq152 := of_decide_eq_true h151
    have hs4 : (mAt ms (r.th - 1).toNat).t.slots.length = 4 := th_four hrow (Or.inl (by omega))
    have h153 := of_decide_eq_true h151
    refine wpf_seq_region ?_
    refine wpo_fieldAddr (o' := 5) fo_45_4 rfl rfl rfl ?_
    have k154 := ((hS117.blk.grown0 hN123.grw).grown hS127.grw (some_ne (by omega)))
    refine wpo_load1 (v := .slice ((mAt ms ((r.th - 1).toNat)).sa) ((mAt ms ((r.th - 1).toNat)).t.slots.length) ((mAt ms ((r.th - 1).toNat)).sc)) ot_27 rfl (k154.cell rfl) rfl ?_
    refine wpo_fieldAddr (o' := 4) fo_76_4 rfl rfl rfl ?_
    refine wpo_load1 (v := .int .i64 q.n) ot_3 rfl (k129.cell rfl) rfl ?_
    refine wpo_rem (c := q.n % 4) rfl rfl (by omega) (by omega) (by omega) rfl rfl ?_
    have hRO155 := (RowsO.typB (RowsO.low (RowsO.typB (RowsO.low (RowsO.low (RowsO.low hR hN103.grw) hN107.grw) hN113.grw) hS117.grw hN113.blk (by decide) (by decide)) hN123.grw) hS127.grw hN123.blk (by decide) (by decide))
    obtain ⟨S156, hSa157, hSl158, hSO159⟩ := RowsO.slot hRO155 (show (r.th - 1).toNat < ms.length by omega) (by omega)
    have hSh160 := hH _ (List.mem_of_getElem? (mAt_get (show (r.th - 1).toNat < ms.length by omega))) _ (Or.inl hSa157)
    have k162 := ((k120.grown0 hN123.grw).grown hS127.grw (some_ne (by omega)))
    have hSn161 := own_ne k162 hSO159 (by decide)
    refine wpo_indexE es_27 rfl rfl hSa157 (Nat.zero_add _) (by omega) (by omega) rfl ?_
    refine wpo_loadn (vs := [.int .i64 ((rAt ((mAt ms ((r.th - 1).toNat)).t.slots) ((q.n % 4).toNat)).th), .int .i64 ((rAt ((mAt ms ((r.th - 1).toNat)).t.slots) ((q.n % 4).toNat)).ve), .bool ((rAt ((mAt ms ((r.th - 1).toNat)).t.slots) ((q.n % 4).toNat)).rd), .bool ((rAt ((mAt ms ((r.th - 1).toNat)).t.slots) ((q.n % 4).toNat)).wr), .bool ((rAt ((mAt ms ((r.th - 1).toNat)).t.slots) ((q.n % 4).toNat)).wk)]) rt_29 rfl rfl (range_sub (Own.range wide_rt hSO159 (rAt_get (show (q.n % 4).toNat < ((mAt ms ((r.th - 1).toNat)).t.slots).length by omega))) 0 5 rfl) rfl ?_
    refine wpo_alloc (cs := #[.int .i64 0, .int .i64 0, .bool false, .bool false, .bool false]) zt_29 rfl rfl ?_
    intro B163 w164 hN165
    have hlB163 := hN_geI hN165 hb128
    have lt_B_B163 := hN_gtl hN165 (k162).lt
    have lt_B101_B163 := hN_gtl hN165 (k129).lt
    have k166 := ((k124.grown0 hN123.grw).grown hS127.grw (some_ne (by omega)))
    have lt_B105_B163 := hN_gtl hN165 (k166).lt
    have lt_B111_B163 := hN_gtl hN165 (k154).lt
    have lt_B121_B163 := hN_gtl hN165 (hS127.blk).lt
    have lt_S156_B163 := hN_gtl hN165 (hSO159).lt
    have hb167 := KeepsI.low hb128 hN165.grw
    refine wpo_storen (vs := [.int .i64 ((rAt ((mAt ms ((r.th - 1).toNat)).t.slots) ((q.n % 4).toNat)).th), .int .i64 ((rAt ((mAt ms ((r.th - 1).toNat)).t.slots) ((q.n % 4).toNat)).ve), .bool ((rAt ((mAt ms ((r.th - 1).toNat)).t.slots) ((q.n % 4).toNat)).rd), .bool ((rAt ((mAt ms ((r.th - 1).toNat)).t.slots) ((q.n % 4).toNat)).wr), .bool ((rAt ((mAt ms ((r.th - 1).toNat)).t.slots) ((q.n % 4).toNat)).wk)]) (cs' := #[.int .i64 ((rAt ((mAt ms ((r.th - 1).toNat)).t.slots) ((q.n % 4).toNat)).th), .int .i64 ((rAt ((mAt ms ((r.th - 1).toNat)).t.slots) ((q.n % 4).toNat)).ve), .bool ((rAt ((mAt ms ((r.th - 1).toNat)).t.slots) ((q.n % 4).toNat)).rd), .bool ((rAt ((mAt ms ((r.th - 1).toNat)).t.slots) ((q.n % 4).toNat)).wr), .bool ((rAt ((mAt ms ((r.th - 1).toNat)).t.slots) ((q.n % 4).toNat)).wk)]) rt_29 rfl rfl rfl (by simp [Value.oneCell']) hN165.blk (Nat.le_of_ble_eq_true rfl) rfl ?_
    intro w168 hS169
    have hb170 := KeepsI.new hb167 hS169.grw (by omega)
    refine wpo_nil ?_
    refine wpf_seq ?_
    refine wpf_seq_region ?_
    refine wpo_fieldAddr (o' := 4) fo_29_4 rfl rfl rfl ?_
    have k171 := ((k166.grown0 hN165.grw).grown hS169.grw (some_ne (by omega)))
    refine wpo_load1 (v := .bool r.wk) ot_4 rfl (k171.cell rfl) rfl ?_
    refine wpo_nil ?_
    refine wpf_cond rfl (fun h172 => ?_) (fun h172 => ?_)
    ·
     refine wpf_region ?_
     refine wpo_loadn (vs := [.int .i64 ((rAt ((mAt ms ((r.th - 1).toNat)).t.slots) ((q.n % 4).toNat)).th), .int .i64 ((rAt ((mAt ms ((r.th - 1).toNat)).t.slots) ((q.n % 4).toNat)).ve), .bool ((rAt ((mAt ms ((r.th - 1).toNat)).t.slots) ((q.n % 4).toNat)).rd), .bool ((rAt ((mAt ms ((r.th - 1).toNat)).t.slots) ((q.n % 4).toNat)).wr), .bool ((rAt ((mAt ms ((r.th - 1).toNat)).t.slots) ((q.n % 4).toNat)).wk)]) rt_29 rfl rfl (hS169.blk.rangeL 0 5 rfl) rfl ?_
     refine wpo_call (vs := [.agg #[.int .i64 ((rAt ((mAt ms ((r.th - 1).toNat)).t.slots) ((q.n % 4).toNat)).th), .int .i64 ((rAt ((mAt ms ((r.th - 1).toNat)).t.slots) ((q.n % 4).toNat)).ve), .bool ((rAt ((mAt ms ((r.th - 1).toNat)).t.slots) ((q.n % 4).toNat)).rd), .bool ((rAt ((mAt ms ((r.th - 1).toNat)).t.slots) ((q.n % 4).toNat)).wr), .bool ((rAt ((mAt ms ((r.th - 1).toNat)).t.slots) ((q.n % 4).toNat)).wk)], .bool true, .bool false, .bool false]) gf_100 (args_cons rfl (args_cons rfl (args_cons rfl (args_cons rfl args_nil)))) rfl (l2Less_c (rAt ((mAt ms ((r.th - 1).toNat)).t.slots) ((q.n % 4).toNat)) true false false _) ?_
     rintro _ w173 ⟨rfl, hg174⟩
     have hb175 := KeepsI.low hb170 hg174
     have k176 := (hS169.blk.grown0 hg174)
     refine wpo_storen (vs := [.int .i64 ((l2Less (rAt ((mAt ms ((r.th - 1).toNat)).t.slots) ((q.n % 4).toNat)) true false false).th), .int .i64 ((l2Less (rAt ((mAt ms ((r.th - 1).toNat)).t.slots) ((q.n % 4).toNat)) true false false).ve), .bool ((l2Less (rAt ((mAt ms ((r.th - 1).toNat)).t.slots) ((q.n % 4).toNat)) true false false).rd), .bool ((l2Less (rAt ((mAt ms ((r.th - 1).toNat)).t.slots) ((q.n % 4).toNat)) true false false).wr), .bool ((l2Less (rAt ((mAt ms ((r.th - 1).toNat)).t.slots) ((q.n % 4).toNat)) true false false).wk)]) (cs' := #[.int .i64 ((l2Less (rAt ((mAt ms ((r.th - 1).toNat)).t.slots) ((q.n % 4).toNat)) true false false).th), .int .i64 ((l2Less (rAt ((mAt ms ((r.th - 1).toNat)).t.slots) ((q.n % 4).toNat)) true false false).ve), .bool ((l2Less (rAt ((mAt ms ((r.th - 1).toNat)).t.slots) ((q.n % 4).toNat)) true false false).rd), .bool ((l2Less (rAt ((mAt ms ((r.th - 1).toNat)).t.slots) ((q.n % 4).toNat)) true false false).wr), .bool ((l2Less (rAt ((mAt ms ((r.th - 1).toNat)).t.slots) ((q.n % 4).toNat)) true false false).wk)]) rt_29 rfl rfl rfl (by simp [Value.oneCell']) k176 (Nat.le_of_ble_eq_true rfl) rfl ?_
     intro w177 hS178
     have hb179 := KeepsI.new hb175 hS178.grw (by omega)
     refine wpo_nil ?_
     refine thn_n ?_
     refine wpf_seq_region ?_
     refine wpo_fieldAddr (o' := 5) fo_45_4 rfl rfl rfl ?_
     have k180 := ((((hS127.blk.grown0 hN165.grw).grown hS169.grw (some_ne (by omega))).grown0 hg174).grown hS178.grw (some_ne (by omega)))
     refine wpo_load1 (v := .slice ((mAt ms ((q.run - 1).toNat)).sa) ((mAt ms ((q.run - 1).toNat)).t.slots.length) ((mAt ms ((q.run - 1).toNat)).sc)) ot_27 rfl (k180.cell rfl) rfl ?_
     refine wpo_fieldAddr (o' := 3) fo_76_3 rfl rfl rfl ?_
     have k181 := ((((k129.grown0 hN165.grw).grown hS169.grw (some_ne (by omega))).grown0 hg174).grown hS178.grw (some_ne (by omega)))
     refine wpo_load1 (v := .int .i64 q.b) ot_3 rfl (k181.cell rfl) rfl ?_
     refine wpo_loadn (vs := [.int .i64 ((l2Less (rAt ((mAt ms ((r.th - 1).toNat)).t.slots) ((q.n % 4).toNat)) true false false).th), .int .i64 ((l2Less (rAt ((mAt ms ((r.th - 1).toNat)).t.slots) ((q.n % 4).toNat)) true false false).ve), .bool ((l2Less (rAt ((mAt ms ((r.th - 1).toNat)).t.slots) ((q.n % 4).toNat)) true false false).rd), .bool ((l2Less (rAt ((mAt ms ((r.th - 1).toNat)).t.slots) ((q.n % 4).toNat)) true false false).wr), .bool ((l2Less (rAt ((mAt ms ((r.th - 1).toNat)).t.slots) ((q.n % 4).toNat)) true false false).wk)]) rt_29 rfl rfl (hS178.blk.rangeL 0 5 rfl) rfl ?_
     have hRO182 := (RowsO.ge (RowsO.low (RowsO.ge (RowsO.low hRO155 hN165.grw) hS169.grw hH (by omega)) hg174) hS178.grw hH (by omega))
     obtain ⟨S183, hSa184, hSl185, hSO186⟩ := RowsO.slot hRO182 (show (q.run - 1).toNat < ms.length by omega) (by omega)
     have hSh187 := hH _ (List.mem_of_getElem? (mAt_get (show (q.run - 1).toNat < ms.length by omega))) _ (Or.inl hSa184)
     have k189 := ((((k162.grown0 hN165.grw).grown hS169.grw (some_ne (by omega))).grown0 hg174).grown hS178.grw (some_ne (by omega)))
     have hSn188 := own_ne k189 hSO186 (by decide)
     refine wpo_indexE es_27 rfl rfl hSa184 (Nat.zero_add _) (by omega) (by omega) rfl ?_
     refine wpo_storenO (g := Rt.cells) (z' := (l2Less (rAt ((mAt ms ((r.th - 1).toNat)).t.slots) ((q.n % 4).toNat)) true false false)) rt_29 rfl rfl (onec_rt _) wide_rt hSO186 (by omega) rfl ?_
     intro w190 hO191 hg192
     have hb193 := KeepsI.own hb179 hg192 hSO186 (by decide) (by omega) (by omega)
     have hRO194 := RowsO.put hRO182 (show (q.run - 1).toNat < ms.length by omega) hSa184 hSl185 hSO186 rfl hO191 hg192 (by decide)
     have k196 := (k189.grown hg192 (some_ne (by omega)))
     have k195 := own_putT (i := (q.run - 1).toNat) (j := (q.b).toNat) (x := (l2Less (rAt ((mAt ms ((r.th - 1).toNat)).t.slots) ((q.n % 4).toNat)) true false false)) k196 (by omega)
     refine wpo_nil ?_
     refine wpf_seq_region ?_
     refine wpo_assign (v := .int .i64 0) rfl rfl ?_
     refine wpo_nil ?_
     refine wpf_ret ?_
     refine blk_r ?_
     refine thn_r ?_
     have hf : far (tabT ms) q r = (tabT (putT ms ((q.run - 1).toNat) ((q.b).toNat) (l2Less (rAt ((mAt ms ((r.th - 1).toNat)).t.slots) ((q.n % 4).toNat)) true false false)), 0) := far_4 h151 (by unfold fetched; simp [h172])
     exact ⟨.int .i64 0, res1 rfl rfl, putT ms ((q.run - 1).toNat) ((q.b).toNat) (l2Less (rAt ((mAt ms ((r.th - 1).toNat)).t.slots) ((q.n % 4).toNat)) true false false), by rw [hf], by first | rfl | exact putT_len | (simp only [List.length_set, putT_len]), k195, hRO194, by rw [hf], hb193⟩
    ·
     refine wpf_skip ?_
     refine thn_n ?_
     refine wpf_seq_region ?_
     refine wpo_fieldAddr (o' := 5) fo_45_4 rfl rfl rfl ?_
     have k197 := ((hS127.blk.grown0 hN165.grw).grown hS169.grw (some_ne (by omega)))
     refine wpo_load1 (v := .slice ((mAt ms ((q.run - 1).toNat)).sa) ((mAt ms ((q.run - 1).toNat)).t.slots.length) ((mAt ms ((q.run - 1).toNat)).sc)) ot_27 rfl (k197.cell rfl) rfl ?_
     refine wpo_fieldAddr (o' := 3) fo_76_3 rfl rfl rfl ?_
     have k198 := ((k129.grown0 hN165.grw).grown hS169.grw (some_ne (by omega)))
     refine wpo_load1 (v := .int .i64 q.b) ot_3 rfl (k198.cell rfl) rfl ?_
     refine wpo_loadn (vs := [.int .i64 ((rAt ((mAt ms ((r.th - 1).toNat)).t.slots) ((q.n % 4).toNat)).th), .int .i64 ((rAt ((mAt ms ((r.th - 1).toNat)).t.slots) ((q.n % 4).toNat)).ve), .bool ((rAt ((mAt ms ((r.th - 1).toNat)).t.slots) ((q.n % 4).toNat)).rd), .bool ((rAt ((mAt ms ((r.th - 1).toNat)).t.slots) ((q.n % 4).toNat)).wr), .bool ((rAt ((mAt ms ((r.th - 1).toNat)).t.slots) ((q.n % 4).toNat)).wk)]) rt_29 rfl rfl (hS169.blk.rangeL 0 5 rfl) rfl ?_
     have hRO199 := (RowsO.ge (RowsO.low hRO155 hN165.grw) hS169.grw hH (by omega))
     obtain ⟨S200, hSa201, hSl202, hSO203⟩ := RowsO.slot hRO199 (show (q.run - 1).toNat < ms.length by omega) (by omega)
     have hSh204 := hH _ (List.mem_of_getElem? (mAt_get (show (q.run - 1).toNat < ms.length by omega))) _ (Or.inl hSa201)
     have k206 := ((k162.grown0 hN165.grw).grown hS169.grw (some_ne (by omega)))
     have hSn205 := own_ne k206 hSO203 (by decide)
     refine wpo_indexE es_27 rfl rfl hSa201 (Nat.zero_add _) (by omega) (by omega) rfl ?_
     refine wpo_storenO (g := Rt.cells) (z' := (rAt ((mAt ms ((r.th - 1).toNat)).t.slots) ((q.n % 4).toNat))) rt_29 rfl rfl (onec_rt _) wide_rt hSO203 (by omega) rfl ?_
     intro w207 hO208 hg209
     have hb210 := KeepsI.own hb170 hg209 hSO203 (by decide) (by omega) (by omega)
     have hRO211 := RowsO.put hRO199 (show (q.run - 1).toNat < ms.length by omega) hSa201 hSl202 hSO203 rfl hO208 hg209 (by decide)
     have k213 := (k206.grown hg209 (some_ne (by omega)))
     have k212 := own_putT (i := (q.run - 1).toNat) (j := (q.b).toNat) (x := (rAt ((mAt ms ((r.th - 1).toNat)).t.slots) ((q.n % 4).toNat))) k213 (by omega)
     refine wpo_nil ?_
     refine wpf_seq_region ?_
     refine wpo_assign (v := .int .i64 0) rfl rfl ?_
     refine wpo_nil ?_
     refine wpf_ret ?_
     refine blk_r ?_
     refine thn_r ?_
     have hf : far (tabT ms) q r = (tabT (putT ms ((q.run - 1).toNat) ((q.b).toNat) (rAt ((mAt ms ((r.th - 1).toNat)).t.slots) ((q.n % 4).toNat))), 0) := far_4 h151 (by unfold fetched; simp [h172])
     exact ⟨.int .i64 0, res1 rfl rfl, putT ms ((q.run - 1).toNat) ((q.b).toNat) (rAt ((mAt ms ((r.th - 1).toNat)).t.slots) ((q.n % 4).toNat)), by rw [hf], by first | rfl | exact putT_len | (simp only [List.length_set, putT_len]), k212, hRO211, by rw [hf], hb210⟩
   ·
    have h214 := of_decide_eq_false h151
    refine wpf_seq_region ?_
    refine wpo_eql (q := decide (q.kind = 5)) rfl rfl rfl rfl ?_
    refine wpo_assign (v := .bool (decide (q.kind = 5))) rfl rfl ?_
    refine wpo_nil ?_
    refine wpf_cond rfl (fun h215 => ?_) (fun h215 => ?_)
    ·
     have hq216 := of_decide_eq_true h215
     have hs4 : (mAt ms (r.th - 1).toNat).t.slots.length = 4 := th_four hrow (Or.inl (by omega))
     have h217 := of_decide_eq_true h215
     have hRO263 := (RowsO.typB (RowsO.low (RowsO.typB (RowsO.low (RowsO.low (RowsO.low hR hN103.grw) hN107.grw) hN113.grw) hS117.grw hN113.blk (by decide) (by decide)) hN123.grw) hS127.grw hN123.blk (by decide) (by decide))
     obtain ⟨S264, hSa265, hSl266, hSO267⟩ := RowsO.slot hRO263 (show (q.run - 1).toNat < ms.length by omega) (by omega)
     have hSh268 := hH _ (List.mem_of_getElem? (mAt_get (show (q.run - 1).toNat < ms.length by omega))) _ (Or.inl hSa265)
     have k270 := ((k120.grown0 hN123.grw).grown hS127.grw (some_ne (by omega)))
     have hSn269 := own_ne k270 hSO267 (by decide)
     obtain ⟨S271, hSa272, hSl273, hSO274⟩ := RowsO.slot hRO263 (show (r.th - 1).toNat < ms.length by omega) (by omega)
     have hSh275 := hH _ (List.mem_of_getElem? (mAt_get (show (r.th - 1).toNat < ms.length by omega))) _ (Or.inl hSa272)
     have hSn276 := own_ne k270 hSO274 (by decide)
     refine wpf_draw (m := 11) (vals := [(57, .pointer (some ⟨B111, 5, none⟩)), (58, .slice ((mAt ms ((r.th - 1).toNat)).sa) ((mAt ms ((r.th - 1).toNat)).t.slots.length) ((mAt ms ((r.th - 1).toNat)).sc)), (59, .pointer (some ⟨B101, 4, none⟩)), (60, .int .i64 q.n), (61, .int .i64 (q.n % 4)), (62, .pointer (some ⟨B121, 5, none⟩)), (63, .slice ((mAt ms ((q.run - 1).toNat)).sa) ((mAt ms ((q.run - 1).toNat)).t.slots.length) ((mAt ms ((q.run - 1).toNat)).sc)), (64, .pointer (some ⟨B101, 3, none⟩)), (65, .int .i64 q.b), (66, .pointer (some ⟨S264, (q.b).toNat * 5, none⟩)), (67, .agg #[.int .i64 ((rAt ((mAt ms ((q.run - 1).toNat)).t.slots) ((q.b).toNat)).th), .int .i64 ((rAt ((mAt ms ((q.run - 1).toNat)).t.slots) ((q.b).toNat)).ve), .bool ((rAt ((mAt ms ((q.run - 1).toNat)).t.slots) ((q.b).toNat)).rd), .bool ((rAt ((mAt ms ((q.run - 1).toNat)).t.slots) ((q.b).toNat)).wr), .bool ((rAt ((mAt ms ((q.run - 1).toNat)).t.slots) ((q.b).toNat)).wk)])]) (fun w' => w126.grownBy w' none) mixed_ (by kernel_rfl) (grown_drew _) ?_ ?_
     ·
      refine yll_cons rfl (fun w278 hi279 => ?_) ?_
      ·
       have hb280 := KeepsI.low hb128 hi279
       refine wpo_fieldAddr (o' := 5) fo_45_4 rfl rfl rfl ?_
       exact wpo_nil ⟨rfl, hi279⟩
      refine yll_cons rfl (fun w281 hi282 => ?_) ?_
      ·
       have hb283 := KeepsI.low hb128 hi282
       have k284 := (((hS117.blk.grown0 hN123.grw).grown hS127.grw (some_ne (by omega))).grown0 hi282)
       refine wpo_load1 (v := .slice ((mAt ms ((r.th - 1).toNat)).sa) ((mAt ms ((r.th - 1).toNat)).t.slots.length) ((mAt ms ((r.th - 1).toNat)).sc)) ot_27 rfl (k284.cell rfl) rfl ?_
       exact wpo_nil ⟨rfl, hi282⟩
      refine yll_cons rfl (fun w285 hi286 => ?_) ?_
      ·
       have hb287 := KeepsI.low hb128 hi286
       refine wpo_fieldAddr (o' := 4) fo_76_4 rfl rfl rfl ?_
       exact wpo_nil ⟨rfl, hi286⟩
      refine yll_cons rfl (fun w288 hi289 => ?_) ?_
      ·
       have hb290 := KeepsI.low hb128 hi289
       have k291 := (k129.grown0 hi289)
       refine wpo_load1 (v := .int .i64 q.n) ot_3 rfl (k291.cell rfl) rfl ?_
       exact wpo_nil ⟨rfl, hi289⟩
      refine yll_cons rfl (fun w292 hi293 => ?_) ?_
      ·
       have hb294 := KeepsI.low hb128 hi293
       refine wpo_rem (c := q.n % 4) rfl rfl (by omega) (by omega) (by omega) rfl rfl ?_
       exact wpo_nil ⟨rfl, hi293⟩
      refine yll_cons rfl (fun w295 hi296 => ?_) ?_
      ·
       have hb297 := KeepsI.low hb128 hi296
       refine wpo_fieldAddr (o' := 5) fo_45_4 rfl rfl rfl ?_
       exact wpo_nil ⟨rfl, hi296⟩
      refine yll_cons rfl (fun w298 hi299 => ?_) ?_
      ·
       have hb300 := KeepsI.low hb128 hi299
       have k301 := (hS127.blk.grown0 hi299)
       refine wpo_load1 (v := .slice ((mAt ms ((q.run - 1).toNat)).sa) ((mAt ms ((q.run - 1).toNat)).t.slots.length) ((mAt ms ((q.run - 1).toNat)).sc)) ot_27 rfl (k301.cell rfl) rfl ?_
       exact wpo_nil ⟨rfl, hi299⟩
      refine yll_cons rfl (fun w302 hi303 => ?_) ?_
      ·
       have hb304 := KeepsI.low hb128 hi303
       refine wpo_fieldAddr (o' := 3) fo_76_3 rfl rfl rfl ?_
       exact wpo_nil ⟨rfl, hi303⟩
      refine yll_cons rfl (fun w305 hi306 => ?_) ?_
      ·
       have hb307 := KeepsI.low hb128 hi306
       have k308 := (k129.grown0 hi306)
       refine wpo_load1 (v := .int .i64 q.b) ot_3 rfl (k308.cell rfl) rfl ?_
       exact wpo_nil ⟨rfl, hi306⟩
      refine yll_cons rfl (fun w309 hi310 => ?_) ?_
      ·
       have hb311 := KeepsI.low hb128 hi310
       refine wpo_indexE es_27 rfl rfl hSa265 (Nat.zero_add _) (by omega) (by omega) rfl ?_
       exact wpo_nil ⟨rfl, hi310⟩
      refine yll_cons rfl (fun w312 hi313 => ?_) ?_
      ·
       have hb314 := KeepsI.low hb128 hi313
       have k315 := (hSO267.grown0 hi313)
       refine wpo_loadn (vs := [.int .i64 ((rAt ((mAt ms ((q.run - 1).toNat)).t.slots) ((q.b).toNat)).th), .int .i64 ((rAt ((mAt ms ((q.run - 1).toNat)).t.slots) ((q.b).toNat)).ve), .bool ((rAt ((mAt ms ((q.run - 1).toNat)).t.slots) ((q.b).toNat)).rd), .bool ((rAt ((mAt ms ((q.run - 1).toNat)).t.slots) ((q.b).toNat)).wr), .bool ((rAt ((mAt ms ((q.run - 1).toNat)).t.slots) ((q.b).toNat)).wk)]) rt_29 rfl rfl (range_sub (Own.range wide_rt k315 (rAt_get (show (q.b).toNat < ((mAt ms ((q.run - 1).toNat)).t.slots).length by omega))) 0 5 rfl) rfl ?_
       exact wpo_nil ⟨rfl, hi313⟩
      exact yll_nil
     ·
      intro w316 hi317
      have hb318 := KeepsI.low hb128 hi317
      refine wpo_indexE es_27 rfl rfl hSa272 (Nat.zero_add _) (by omega) (by omega) rfl ?_
      have k319 := (hSO274.grown0 hi317)
      have hRO323 := (RowsO.low hRO263 hi317)
      have k324 := (k270.grown0 hi317)
      refine wpo_storenO (g := Rt.cells) (z' := (rAt ((mAt ms ((q.run - 1).toNat)).t.slots) ((q.b).toNat))) rt_29 rfl rfl (onec_rt _) wide_rt k319 (by omega) rfl ?_
      intro w320 hO321 hg322
      have hb325 := KeepsI.own hb318 hg322 k319 (by decide) (by omega) (by omega)
      have hRO326 := RowsO.put hRO323 (show (r.th - 1).toNat < ms.length by omega) hSa272 hSl273 k319 rfl hO321 hg322 (by decide)
      have k328 := (k324.grown hg322 (some_ne (by omega)))
      have k327 := own_putT (i := (r.th - 1).toNat) (j := (q.n % 4).toNat) (x := (rAt ((mAt ms ((q.run - 1).toNat)).t.slots) ((q.b).toNat))) k328 (by omega)
      refine wpo_nil ?_
      refine blk_n ?_
      refine thn_n ?_
      refine wpf_seq_region ?_
      refine wpo_move (v := .slice (some ⟨B, 0, none⟩) ms.length cap) rfl rfl ?_
      refine wpo_fieldAddr (o' := 0) fo_29_0 rfl rfl rfl ?_
      have k329 := ((((k124.grown0 hN123.grw).grown hS127.grw (some_ne (by omega))).grown0 hi317).grown hg322 (some_ne (by omega)))
      refine wpo_load1 (v := .int .i64 r.th) ot_3 rfl (k329.cell rfl) rfl ?_
      refine wpo_sub (c := r.th - 1) rfl rfl (by omega) (by omega) (by omega) rfl ?_
      have k330 := ((((hS117.blk.grown0 hN123.grw).grown hS127.grw (some_ne (by omega))).grown0 hi317).grown hg322 (some_ne (by omega)))
      refine wpo_loadn (vs := [.int .i64 ((mAt ms ((r.th - 1).toNat)).t.kind), .int .i64 ((mAt ms ((r.th - 1).toNat)).t.lab.s), .int .i64 ((mAt ms ((r.th - 1).toNat)).t.lab.v), .int .i64 ((mAt ms ((r.th - 1).toNat)).t.ve), .int .i64 ((mAt ms ((r.th - 1).toNat)).t.num), .slice ((mAt ms ((r.th - 1).toNat)).sa) ((mAt ms ((r.th - 1).toNat)).t.slots.length) ((mAt ms ((r.th - 1).toNat)).sc), .slice ((mAt ms ((r.th - 1).toNat)).qa) ((mAt ms ((r.th - 1).toNat)).t.queue.length) ((mAt ms ((r.th - 1).toNat)).qc), .int .i64 ((mAt ms ((r.th - 1).toNat)).t.to)]) rt_45 rfl rfl (k330.rangeL 0 8 rfl) rfl ?_
      refine wpo_indexAddr (o' := (r.th - 1).toNat * 8) es_54 rfl rfl (by omega) (by omega) (by omega) rfl ?_
      refine wpo_storenO (g := MTh.cells) (z' := putS (mAt ms ((r.th - 1).toNat)) ((q.n % 4).toNat) (rAt ((mAt ms ((q.run - 1).toNat)).t.slots) ((q.b).toNat))) rt_45 rfl (congrArg (fun l : List Value => Value.agg l.toArray) cells_putS.symm) (onec_mth _) wide_mth k327 (by (simp only [List.length_set, putT_len]; omega)) rfl ?_
      intro w331 hO332 hg333
      have hb334 := KeepsI.own hb325 hg333 k327 (by decide) (by omega) (by omega)
      have hRO335 := (RowsO.own hRO326 hg333 k327 (by decide) (by decide))
      have k336 := hO332
      rw [putT_again] at k336
      refine wpo_nil ?_
      refine wpf_seq_region ?_
      refine wpo_move (v := .int .i64 0) rfl rfl ?_
      refine wpo_assign (v := .int .i64 0) rfl rfl ?_
      refine wpo_nil ?_
      refine wpf_ret ?_
      have hf : far (tabT ms) q r = (tabT (putT ms ((r.th - 1).toNat) ((q.n % 4).toNat) (rAt ((mAt ms ((q.run - 1).toNat)).t.slots) ((q.b).toNat))), 0) := far_5 h215 rfl
      exact ⟨.int .i64 0, res1 rfl rfl, putT ms ((r.th - 1).toNat) ((q.n % 4).toNat) (rAt ((mAt ms ((q.run - 1).toNat)).t.slots) ((q.b).toNat)), by rw [hf], by first | rfl | exact putT_len | (simp only [List.length_set, putT_len]), k336, hRO335, by rw [hf], hb334⟩
    ·
     have h337 := of_decide_eq_false h215
     refine wpf_seq_region ?_
     refine wpo_eql (q := decide (q.kind = 6)) rfl rfl rfl rfl ?_
     refine wpo_assign (v := .bool (decide (q.kind = 6))) rfl rfl ?_
     refine wpo_nil ?_
     refine wpf_cond rfl (fun h338 => ?_) (fun h338 => ?_)
     ·
      have h339 := of_decide_eq_true h338
      refine wpf_seq ?_
      refine wpf_seq_region ?_
      refine wpo_fieldAddr (o' := 6) fo_45_5 rfl rfl rfl ?_
      have k340 := ((hS117.blk.grown0 hN123.grw).grown hS127.grw (some_ne (by omega)))
      refine wpo_load1 (v := .slice ((mAt ms ((r.th - 1).toNat)).qa) ((mAt ms ((r.th - 1).toNat)).t.queue.length) ((mAt ms ((r.th - 1).toNat)).qc)) ot_43 rfl (k340.cell rfl) rfl ?_
      refine wpo_len (by kernel_rfl) rfl rfl ?_
      refine wpo_geq (q := decide (3 ≤ ((mAt ms ((r.th - 1).toNat)).t.queue.length : Int))) rfl rfl rfl rfl ?_
      refine wpo_nil ?_
      refine wpf_cond rfl (fun h341 => ?_) (fun h341 => ?_)
      ·
       have h342 := of_decide_eq_true h341
       refine wpf_seq_region ?_
       refine wpo_assign (v := .int .i64 (-4)) rfl rfl ?_
       refine wpo_nil ?_
       refine wpf_ret ?_
       refine thn_r ?_
       refine blk_r ?_
       refine thn_r ?_
       have hRO343 := (RowsO.typB (RowsO.low (RowsO.typB (RowsO.low (RowsO.low (RowsO.low hR hN103.grw) hN107.grw) hN113.grw) hS117.grw hN113.blk (by decide) (by decide)) hN123.grw) hS127.grw hN123.blk (by decide) (by decide))
       have k344 := ((k120.grown0 hN123.grw).grown hS127.grw (some_ne (by omega)))
       have hf : far (tabT ms) q r = (tabT (ms), (-4)) := far_6n h338 (by omega)
       exact ⟨.int .i64 (-4), res1 rfl rfl, ms, by rw [hf], by first | rfl | exact putT_len | (simp only [List.length_set, putT_len]), k344, hRO343, by rw [hf], hb128⟩
      ·
       have h345 := of_decide_eq_false h341
       refine wpf_skip ?_
       refine thn_n ?_
       refine wpf_drawI (m := 7) [[], [], [1], [0, 1, 2], [], [4], [4, 5], [0, 1, 2, 3, 4, 5, 6], [0, 1, 2, 3, 4, 5, 6, 7], [0, 1, 2, 3, 4, 5, 6, 7, 8]] (fun S F w' => ∃ (B480 : Nat) (a492 : Option Addr) (cap493 : Nat) (B501 : Nat), w126.grownBy w' none ∧ F 0 = .slice (some ⟨B, 0, none⟩) ms.length cap ∧ F 4 = .pointer (some ⟨B101, 0, none⟩) ∧ F 5 = .pointer (some ⟨B105, 0, none⟩) ∧ F 6 = .int .i64 0 ∧ F 7 = .pointer (some ⟨B111, 0, none⟩) ∧ F 9 = .int .i64 0 ∧ (S 0 = true → F 75 = .slice (some ⟨B480, 0, none⟩) 0 0 ∧ w.heap.size ≤ B480 ∧ (S 3 = false → Blk w' B480 3 (([] : List Int).flatMap icell).toArray) ∧ B < B480 ∧ B101 < B480 ∧ B105 < B480 ∧ B111 < B480 ∧ B121 < B480 ∧ w126.heap.size ≤ B480 ∧ B480 < w'.heap.size) ∧ (S 1 = true → F 76 = .pointer (some ⟨B111, 6, none⟩)) ∧ (S 2 = true → F 77 = .slice ((mAt ms ((r.th - 1).toNat)).qa) ((mAt ms ((r.th - 1).toNat)).t.queue.length) ((mAt ms ((r.th - 1).toNat)).qc)) ∧ (S 3 = true → F 78 = .slice a492 (((mAt ms ((r.th - 1).toNat)).t.queue).length) cap493 ∧ OwnN w.heap.size w' a492 3 1 cap493 ((mAt ms ((r.th - 1).toNat)).t.queue).length (((mAt ms ((r.th - 1).toNat)).t.queue).flatMap icell)) ∧ (S 4 = true → F 79 = .pointer (some ⟨B101, 4, none⟩)) ∧ (S 5 = true → F 80 = .int .i64 q.n) ∧ (S 6 = true → F 81 = .slice (some ⟨B501, 0, none⟩) 1 1 ∧ w.heap.size ≤ B501 ∧ Blk w' B501 3 (([q.n] : List Int).flatMap icell).toArray ∧ B < B501 ∧ B101 < B501 ∧ B105 < B501 ∧ B111 < B501 ∧ B121 < B501 ∧ w126.heap.size ≤ B501) ∧ (S 0 = true → S 6 = true → B480 ≠ B501)) mixed_ (by kernel_rfl) ⟨0, none, 0, 0, grown_drew _, rfl, rfl, rfl, rfl, rfl, rfl, fun h => not_begun h, fun h => not_begun h, fun h => not_begun h, fun h => not_begun h, fun h => not_begun h, fun h => not_begun h, fun h => not_begun h, fun h => not_begun h⟩ ?_ ?_
       ·
        refine preL_cons (fun S F w509 hS hbef hcl hI => ?_) ?_
        ·
         obtain ⟨B480, a492, cap493, B501, hi510, e511, e512, e513, e514, e515, e516, c_0, c_1, c_2, c_3, c_4, c_5, c_6, pr_B480_B501⟩ := hI
         have hb517 := KeepsI.low hb128 hi510
         refine wpo_buildSlice (ps := []) (e := 3) (cs := (([] : List Int).flatMap icell).toArray) parts_nil (fun _ => by kernel_rfl) rfl ?_
         intro B518 w519 hN520
         have hlB518 := hN_geI hN520 hb517
         have k521 := (((k120.grown0 hN123.grw).grown hS127.grw (some_ne (by omega))).grown0 hi510)
         have lt_B_B518 := hN_gtl hN520 (k521).lt
         have k522 := (k129.grown0 hi510)
         have lt_B101_B518 := hN_gtl hN520 (k522).lt
         have k523 := (((k124.grown0 hN123.grw).grown hS127.grw (some_ne (by omega))).grown0 hi510)
         have lt_B105_B518 := hN_gtl hN520 (k523).lt
         have k524 := (k340.grown0 hi510)
         have lt_B111_B518 := hN_gtl hN520 (k524).lt
         have k525 := (hS127.blk.grown0 hi510)
         have lt_B121_B518 := hN_gtl hN520 (k525).lt
         have hb526 := KeepsI.low hb517 hN520.grw
         exact wpo_nil ⟨B518, a492, cap493, B501, (low0 hi510 hN520.grw), e511, e512, e513, e514, e515, e516, fun _ => ⟨rfl, hlB518, fun _ => hN520.blk, lt_B_B518, lt_B101_B518, lt_B105_B518, lt_B111_B518, lt_B121_B518, (Nat.le_trans hi510.size (Nat.le_of_eq hN520.eq.symm)), (hN520.blk).lt⟩, c_1, c_2, fun h => undone 3 hS hcl rfl h, c_4, c_5, fun h => let ⟨y527, y528, y529, y530, y531, y532, y533, y534, y535⟩ := c_6 h; ⟨y527, y528, (y529).grown0 hN520.grw, y530, y531, y532, y533, y534, y535⟩, fun _ h => let ⟨y536, y537, y538, y539, y540, y541, y542, y543, y544⟩ := c_6 h; Nat.ne_of_gt (Nat.lt_of_lt_of_le (Blk.lt y538) (Nat.le_of_eq hN520.eq.symm))⟩
        refine preL_cons (fun S F w545 hS hbef hcl hI => ?_) ?_
        ·
         obtain ⟨B480, a492, cap493, B501, hi546, e547, e548, e549, e550, e551, e552, c_0, c_1, c_2, c_3, c_4, c_5, c_6, pr_B480_B501⟩ := hI
         have hb553 := KeepsI.low hb128 hi546
         refine wpo_fieldAddr (o' := 6) fo_45_5 e551 rfl rfl ?_
         exact wpo_nil ⟨B480, a492, cap493, B501, hi546, e547, e548, e549, e550, e551, e552, c_0, fun _ => rfl, fun h => undone 2 hS hcl rfl h, fun h => undone 3 hS hcl rfl h, c_4, c_5, c_6, pr_B480_B501⟩
        refine preL_cons (fun S F w554 hS hbef hcl hI => ?_) ?_
        ·
         obtain ⟨B480, a492, cap493, B501, hi555, e556, e557, e558, e559, e560, e561, c_0, c_1, c_2, c_3, c_4, c_5, c_6, pr_B480_B501⟩ := hI
         have hb562 := KeepsI.low hb128 hi555
         obtain e563 := c_1 (ready_of 1 hbef rfl)
         have k564 := (k340.grown0 hi555)
         refine wpo_load1 (v := .slice ((mAt ms ((r.th - 1).toNat)).qa) ((mAt ms ((r.th - 1).toNat)).t.queue.length) ((mAt ms ((r.th - 1).toNat)).qc)) ot_43 e563 (k564.cell rfl) rfl ?_
         exact wpo_nil ⟨B480, a492, cap493, B501, hi555, e556, e557, e558, e559, e560, e561, c_0, c_1, fun _ => rfl, fun h => undone 3 hS hcl rfl h, c_4, c_5, c_6, pr_B480_B501⟩
        refine preL_cons (fun S F w565 hS hbef hcl hI => ?_) ?_
        ·
         obtain ⟨B480, a492, cap493, B501, hi566, e567, e568, e569, e570, e571, e572, c_0, c_1, c_2, c_3, c_4, c_5, c_6, pr_B480_B501⟩ := hI
         have hb573 := KeepsI.low hb128 hi566
         obtain ⟨e574, hlB480, kb_B480, lt_B_B480, lt_B101_B480, lt_B105_B480, lt_B111_B480, lt_B121_B480, hk_B480, hz_B480⟩ := c_0 (ready_of 0 hbef rfl)
         obtain e575 := c_1 (ready_of 1 hbef rfl)
         obtain e576 := c_2 (ready_of 2 hbef rfl)
         have hRO577 := (RowsO.low (RowsO.typB (RowsO.low (RowsO.typB (RowsO.low (RowsO.low (RowsO.low hR hN103.grw) hN107.grw) hN113.grw) hS117.grw hN113.blk (by decide) (by decide)) hN123.grw) hS127.grw hN123.blk (by decide) (by decide)) hi566)
         have k578 := (((k120.grown0 hN123.grw).grown hS127.grw (some_ne (by omega))).grown0 hi566)
         have k579 := (k129.grown0 hi566)
         have k580 := (((k124.grown0 hN123.grw).grown hS127.grw (some_ne (by omega))).grown0 hi566)
         have k581 := (k340.grown0 hi566)
         have k582 := (hS127.blk.grown0 hi566)
         refine wpo_appendN (g := icell) (ys := ([])) (zs := ((mAt ms ((r.th - 1).toNat)).t.queue)) (lo := w.heap.size) mk_43 rfl wide_int (by omega) onec_int e574 e576 (OwnN.of (Own.rows wide_int (kb_B480 hS) (by simp)) hlB480) (RowO.th (RowsO.at hRO577 (show (r.th - 1).toNat < ms.length by omega))).2.1 (RowO.th (RowsO.at hRO577 (show (r.th - 1).toNat < ms.length by omega))).2.2.2 (by first | omega | exact Nat.le_of_ble_eq_true rfl | (simp only [List.length_nil, List.length_cons, List.length_append, List.length_replicate]; omega) | (simp only [List.length_drop, List.length_nil]; omega)) (by omega) hb573.size rfl ?_
         intro a583 cap584 w585 hO586 hg587 hor588
         have hg589 : World.grownBy w565 w585 (some B480) := hg587
         have hb590 := KeepsI.new hb573 hg589 (by omega)
         exact wpo_nil ⟨B480, a583, cap584, B501, (low1 hi566 hg589 (by omega)), e567, e568, e569, e570, e571, e572, fun h => let ⟨y591, y592, y593, y594, y595, y596, y597, y598, y599, y600⟩ := c_0 h; ⟨y591, y592, fun h => not_open h, y594, y595, y596, y597, y598, y599, (Nat.lt_of_lt_of_le y600 hg589.size)⟩, c_1, c_2, fun _ => ⟨rfl, hO586⟩, c_4, c_5, fun h => let ⟨y601, y602, y603, y604, y605, y606, y607, y608, y609⟩ := c_6 h; ⟨y601, y602, (y603).grown hg589 (some_ne (pr_B480_B501 (ready_of 0 hbef rfl) h).symm), y604, y605, y606, y607, y608, y609⟩, pr_B480_B501⟩
        refine preL_cons (fun S F w610 hS hbef hcl hI => ?_) ?_
        ·
         obtain ⟨B480, a492, cap493, B501, hi611, e612, e613, e614, e615, e616, e617, c_0, c_1, c_2, c_3, c_4, c_5, c_6, pr_B480_B501⟩ := hI
         have hb618 := KeepsI.low hb128 hi611
         refine wpo_fieldAddr (o' := 4) fo_76_4 e613 rfl rfl ?_
         exact wpo_nil ⟨B480, a492, cap493, B501, hi611, e612, e613, e614, e615, e616, e617, c_0, c_1, c_2, c_3, fun _ => rfl, fun h => undone 5 hS hcl rfl h, fun h => undone 6 hS hcl rfl h, pr_B480_B501⟩
        refine preL_cons (fun S F w619 hS hbef hcl hI => ?_) ?_
        ·
         obtain ⟨B480, a492, cap493, B501, hi620, e621, e622, e623, e624, e625, e626, c_0, c_1, c_2, c_3, c_4, c_5, c_6, pr_B480_B501⟩ := hI
         have hb627 := KeepsI.low hb128 hi620
         obtain e628 := c_4 (ready_of 4 hbef rfl)
         have k629 := (k129.grown0 hi620)
         refine wpo_load1 (v := .int .i64 q.n) ot_3 e628 (k629.cell rfl) rfl ?_
         exact wpo_nil ⟨B480, a492, cap493, B501, hi620, e621, e622, e623, e624, e625, e626, c_0, c_1, c_2, c_3, c_4, fun _ => rfl, fun h => undone 6 hS hcl rfl h, pr_B480_B501⟩
        refine preL_cons (fun S F w630 hS hbef hcl hI => ?_) ?_
        ·
         obtain ⟨B480, a492, cap493, B501, hi631, e632, e633, e634, e635, e636, e637, c_0, c_1, c_2, c_3, c_4, c_5, c_6, pr_B480_B501⟩ := hI
         have hb638 := KeepsI.low hb128 hi631
         obtain e639 := c_4 (ready_of 4 hbef rfl)
         obtain e640 := c_5 (ready_of 5 hbef rfl)
         refine wpo_buildSlice (ps := [(0, .int .i64 q.n)]) (e := 3) (cs := (([q.n] : List Int).flatMap icell).toArray) (parts_cons e640 parts_nil) (fun _ => by kernel_rfl) rfl ?_
         intro B641 w642 hN643
         have hlB641 := hN_geI hN643 hb638
         have k644 := (((k120.grown0 hN123.grw).grown hS127.grw (some_ne (by omega))).grown0 hi631)
         have lt_B_B641 := hN_gtl hN643 (k644).lt
         have k645 := (k129.grown0 hi631)
         have lt_B101_B641 := hN_gtl hN643 (k645).lt
         have k646 := (((k124.grown0 hN123.grw).grown hS127.grw (some_ne (by omega))).grown0 hi631)
         have lt_B105_B641 := hN_gtl hN643 (k646).lt
         have k647 := (k340.grown0 hi631)
         have lt_B111_B641 := hN_gtl hN643 (k647).lt
         have k648 := (hS127.blk.grown0 hi631)
         have lt_B121_B641 := hN_gtl hN643 (k648).lt
         have hb649 := KeepsI.low hb638 hN643.grw
         exact wpo_nil ⟨B480, a492, cap493, B641, (low0 hi631 hN643.grw), e632, e633, e634, e635, e636, e637, fun h => let ⟨y650, y651, y652, y653, y654, y655, y656, y657, y658, y659⟩ := c_0 h; ⟨y650, y651, fun hn => (y652 hn).grown0 hN643.grw, y653, y654, y655, y656, y657, y658, (Nat.lt_of_lt_of_le y659 hN643.grw.size)⟩, c_1, c_2, fun h => let ⟨y660, y661⟩ := c_3 h; ⟨y660, (y661).grown0 hN643.grw⟩, c_4, c_5, fun _ => ⟨rfl, hlB641, hN643.blk, lt_B_B641, lt_B101_B641, lt_B105_B641, lt_B111_B641, lt_B121_B641, (Nat.le_trans hi631.size (Nat.le_of_eq hN643.eq.symm))⟩, fun h _ => let ⟨y662, y663, y664, y665, y666, y667, y668, y669, y670, y671⟩ := c_0 h; Nat.ne_of_lt (Nat.lt_of_lt_of_le (y671) (Nat.le_of_eq hN643.eq.symm))⟩
        exact preL_nil
       ·
        intro S F w672 hall hI
        obtain ⟨B480, a492, cap493, B501, hi673, e674, e675, e676, e677, e678, e679, c_0, c_1, c_2, c_3, c_4, c_5, c_6, pr_B480_B501⟩ := hI
        have hb680 := KeepsI.low hb128 hi673
        obtain ⟨e681, hlB480, kb_B480, lt_B_B480, lt_B101_B480, lt_B105_B480, lt_B111_B480, lt_B121_B480, hk_B480, hz_B480⟩ := c_0 (hall 0 (by decide))
        obtain e682 := c_1 (hall 1 (by decide))
        obtain e683 := c_2 (hall 2 (by decide))
        obtain ⟨e684, hO495⟩ := c_3 (hall 3 (by decide))
        obtain e685 := c_4 (hall 4 (by decide))
        obtain e686 := c_5 (hall 5 (by decide))
        obtain ⟨e687, hlB501, kb_B501, lt_B_B501, lt_B101_B501, lt_B105_B501, lt_B111_B501, lt_B121_B501, hk_B501⟩ := c_6 (hall 6 (by decide))
        have ne_B480_B501 := pr_B480_B501 (hall 0 (by decide)) (hall 6 (by decide))
        have hO688 := hO495
        refine wpo_appendN (g := icell) (ys := ((mAt ms ((r.th - 1).toNat)).t.queue)) (zs := ([q.n] : List Int)) (lo := w.heap.size) mk_43 rfl wide_int (by omega) onec_int e684 e687 hO688 (rows_sl wide_int kb_B501) (fun h => by cases h) (by first | omega | exact Nat.le_of_ble_eq_true rfl | (simp only [List.length_nil, List.length_cons, List.length_append, List.length_replicate]; omega)) (by omega) (by first | exact hb680.size | omega) rfl ?_
        have k695 := (((k120.grown0 hN123.grw).grown hS127.grw (some_ne (by omega))).grown0 hi673)
        have k696 := (k129.grown0 hi673)
        have k697 := (((k124.grown0 hN123.grw).grown hS127.grw (some_ne (by omega))).grown0 hi673)
        have k698 := (k340.grown0 hi673)
        have k699 := (hS127.blk.grown0 hi673)
        intro a689 cap690 w691 hO692 hg693 hor694
        have hb700 := KeepsI.newN hb680 hO688 hg693 (by omega)
        refine wpo_fieldAddr (o' := 6) fo_45_5 e678 rfl rfl ?_
        have k701 := (Blk.typN k698 hO688 hg693 (by decide))
        refine wpo_store1 (v := .slice a689 ((((mAt ms ((r.th - 1).toNat)).t.queue) ++ ([q.n] : List Int)).length) cap690) (cs' := #[.int .i64 ((mAt ms ((r.th - 1).toNat)).t.kind), .int .i64 ((mAt ms ((r.th - 1).toNat)).t.lab.s), .int .i64 ((mAt ms ((r.th - 1).toNat)).t.lab.v), .int .i64 ((mAt ms ((r.th - 1).toNat)).t.ve), .int .i64 ((mAt ms ((r.th - 1).toNat)).t.num), .slice ((mAt ms ((r.th - 1).toNat)).sa) ((mAt ms ((r.th - 1).toNat)).t.slots.length) ((mAt ms ((r.th - 1).toNat)).sc), .slice a689 ((((mAt ms ((r.th - 1).toNat)).t.queue) ++ ([q.n] : List Int)).length) cap690, .int .i64 ((mAt ms ((r.th - 1).toNat)).t.to)]) ot_43 rfl rfl rfl k701 (Nat.le_of_ble_eq_true rfl) rfl ?_
        intro w702 hS703
        have hb704 := KeepsI.new hb700 hS703.grw (by omega)
        refine wpo_nil ?_
        refine blk_n ?_
        refine thn_n ?_
        refine wpf_seq_region ?_
        refine wpo_move (v := .slice (some ⟨B, 0, none⟩) ms.length cap) e674 rfl ?_
        refine wpo_fieldAddr (o' := 0) fo_29_0 e676 rfl rfl ?_
        have k705 := ((Blk.typN k697 hO688 hg693 (by decide)).grown hS703.grw (some_ne (by omega)))
        refine wpo_load1 (v := .int .i64 r.th) ot_3 rfl (k705.cell rfl) rfl ?_
        refine wpo_sub (c := r.th - 1) rfl rfl (by omega) (by omega) (by omega) rfl ?_
        refine wpo_loadn (vs := [.int .i64 ((mAt ms ((r.th - 1).toNat)).t.kind), .int .i64 ((mAt ms ((r.th - 1).toNat)).t.lab.s), .int .i64 ((mAt ms ((r.th - 1).toNat)).t.lab.v), .int .i64 ((mAt ms ((r.th - 1).toNat)).t.ve), .int .i64 ((mAt ms ((r.th - 1).toNat)).t.num), .slice ((mAt ms ((r.th - 1).toNat)).sa) ((mAt ms ((r.th - 1).toNat)).t.slots.length) ((mAt ms ((r.th - 1).toNat)).sc), .slice a689 ((((mAt ms ((r.th - 1).toNat)).t.queue) ++ ([q.n] : List Int)).length) cap690, .int .i64 ((mAt ms ((r.th - 1).toNat)).t.to)]) rt_45 e678 rfl (hS703.blk.rangeL 0 8 rfl) rfl ?_
        refine wpo_indexAddr (o' := (r.th - 1).toNat * 8) es_54 rfl rfl (by omega) (by omega) (by omega) rfl ?_
        have k706 := ((Own.typN k695 hO688 hg693 (by decide)).grown hS703.grw (some_ne (by omega)))
        have hRO710 := (RowsO.typB (RowsO.newN (RowsO.low (RowsO.typB (RowsO.low (RowsO.typB (RowsO.low (RowsO.low (RowsO.low hR hN103.grw) hN107.grw) hN113.grw) hS117.grw hN113.blk (by decide) (by decide)) hN123.grw) hS127.grw hN123.blk (by decide) (by decide)) hi673) hO688 hg693 hH (by omega)) hS703.grw k701 (by decide) (by decide))
        refine wpo_storenO (g := MTh.cells) (z' := (⟨⟨(mAt ms ((r.th - 1).toNat)).t.kind, ((mAt ms ((r.th - 1).toNat)).t.lab), (mAt ms ((r.th - 1).toNat)).t.ve, (mAt ms ((r.th - 1).toNat)).t.num, (mAt ms ((r.th - 1).toNat)).t.slots, ((mAt ms ((r.th - 1).toNat)).t.queue) ++ ([q.n] : List Int), (mAt ms ((r.th - 1).toNat)).t.to⟩, (mAt ms ((r.th - 1).toNat)).sa, (mAt ms ((r.th - 1).toNat)).sc, a689, cap690⟩ : MTh)) rt_45 rfl rfl (onec_mth _) wide_mth k706 (by omega) rfl ?_
        intro w707 hO708 hg709
        have hb711 := KeepsI.own hb704 hg709 k706 (by decide) (by omega) (by omega)
        have hRO712 : RowsO 29 3 lo w707 (ms.set (r.th - 1).toNat (⟨⟨(mAt ms ((r.th - 1).toNat)).t.kind, ((mAt ms ((r.th - 1).toNat)).t.lab), (mAt ms ((r.th - 1).toNat)).t.ve, (mAt ms ((r.th - 1).toNat)).t.num, (mAt ms ((r.th - 1).toNat)).t.slots, ((mAt ms ((r.th - 1).toNat)).t.queue) ++ ([q.n] : List Int), (mAt ms ((r.th - 1).toNat)).t.to⟩, (mAt ms ((r.th - 1).toNat)).sa, (mAt ms ((r.th - 1).toNat)).sc, a689, cap690⟩ : MTh)) := RowsO.setq (RowsO.own hRO710 hg709 k706 (by decide) (by decide)) (show (r.th - 1).toNat < ms.length by omega) (OwnN.mono (OwnN.typ (OwnN.typB hO692 hS703.grw k701 (by decide)) hg709 k706 (by decide)) hlow) ⟨rfl, rfl, rfl⟩
        refine wpo_nil ?_
        refine wpf_seq_region ?_
        refine wpo_move (v := .int .i64 0) e679 rfl ?_
        refine wpo_assign (v := .int .i64 0) rfl rfl ?_
        refine wpo_nil ?_
        refine wpf_ret ?_
        have hf : far (tabT ms) q r = (tabT (ms.set (r.th - 1).toNat (⟨⟨(mAt ms ((r.th - 1).toNat)).t.kind, ((mAt ms ((r.th - 1).toNat)).t.lab), (mAt ms ((r.th - 1).toNat)).t.ve, (mAt ms ((r.th - 1).toNat)).t.num, (mAt ms ((r.th - 1).toNat)).t.slots, ((mAt ms ((r.th - 1).toNat)).t.queue) ++ ([q.n] : List Int), (mAt ms ((r.th - 1).toNat)).t.to⟩, (mAt ms ((r.th - 1).toNat)).sa, (mAt ms ((r.th - 1).toNat)).sc, a689, cap690⟩ : MTh)), 0) := far_6 h338 (by omega) rfl
        exact ⟨.int .i64 0, res1 rfl rfl, ms.set (r.th - 1).toNat (⟨⟨(mAt ms ((r.th - 1).toNat)).t.kind, ((mAt ms ((r.th - 1).toNat)).t.lab), (mAt ms ((r.th - 1).toNat)).t.ve, (mAt ms ((r.th - 1).toNat)).t.num, (mAt ms ((r.th - 1).toNat)).t.slots, ((mAt ms ((r.th - 1).toNat)).t.queue) ++ ([q.n] : List Int), (mAt ms ((r.th - 1).toNat)).t.to⟩, (mAt ms ((r.th - 1).toNat)).sa, (mAt ms ((r.th - 1).toNat)).sc, a689, cap690⟩ : MTh), by rw [hf], by first | rfl | exact putT_len | (simp only [List.length_set, putT_len]), hO708, hRO712, by rw [hf], hb711⟩
     ·
      have h713 := of_decide_eq_false h338
      refine wpf_seq_region ?_
      refine wpo_eql (q := decide (q.kind = 7)) rfl rfl rfl rfl ?_
      refine wpo_assign (v := .bool (decide (q.kind = 7))) rfl rfl ?_
      refine wpo_nil ?_
      refine wpf_cond rfl (fun h714 => ?_) (fun h714 => ?_)
      ·
       have h715 := of_decide_eq_true h714
       refine wpf_seq ?_
       refine wpf_seq_region ?_
       refine wpo_fieldAddr (o' := 6) fo_45_5 rfl rfl rfl ?_
       have k716 := ((hS117.blk.grown0 hN123.grw).grown hS127.grw (some_ne (by omega)))
       refine wpo_load1 (v := .slice ((mAt ms ((r.th - 1).toNat)).qa) ((mAt ms ((r.th - 1).toNat)).t.queue.length) ((mAt ms ((r.th - 1).toNat)).qc)) ot_43 rfl (k716.cell rfl) rfl ?_
       refine wpo_len (by kernel_rfl) rfl rfl ?_
       refine wpo_eql (q := decide (((mAt ms ((r.th - 1).toNat)).t.queue.length : Int) = 0)) rfl rfl rfl rfl ?_
       refine wpo_nil ?_
       refine wpf_cond rfl (fun h717 => ?_) (fun h717 => ?_)
       ·
        have h718 := of_decide_eq_true h717
        refine wpf_seq_region ?_
        refine wpo_assign (v := .int .i64 (-4)) rfl rfl ?_
        refine wpo_nil ?_
        refine wpf_ret ?_
        refine thn_r ?_
        refine blk_r ?_
        refine thn_r ?_
        have hRO719 := (RowsO.typB (RowsO.low (RowsO.typB (RowsO.low (RowsO.low (RowsO.low hR hN103.grw) hN107.grw) hN113.grw) hS117.grw hN113.blk (by decide) (by decide)) hN123.grw) hS127.grw hN123.blk (by decide) (by decide))
        have k720 := ((k120.grown0 hN123.grw).grown hS127.grw (some_ne (by omega)))
        have hf : far (tabT ms) q r = (tabT (ms), (-4)) := far_7n h714 (by omega)
        exact ⟨.int .i64 (-4), res1 rfl rfl, ms, by rw [hf], by first | rfl | exact putT_len | (simp only [List.length_set, putT_len]), k720, hRO719, by rw [hf], hb128⟩
       ·
        have h721 := of_decide_eq_false h717
        refine wpf_skip ?_
        refine thn_n ?_
        refine wpf_seq_region ?_
        refine wpo_fieldAddr (o' := 6) fo_45_5 rfl rfl rfl ?_
        refine wpo_load1 (v := .slice ((mAt ms ((r.th - 1).toNat)).qa) ((mAt ms ((r.th - 1).toNat)).t.queue.length) ((mAt ms ((r.th - 1).toNat)).qc)) ot_43 rfl (k716.cell rfl) rfl ?_
        have hRO730 := (RowsO.typB (RowsO.low (RowsO.typB (RowsO.low (RowsO.low (RowsO.low hR hN103.grw) hN107.grw) hN113.grw) hS117.grw hN113.blk (by decide) (by decide)) hN123.grw) hS127.grw hN123.blk (by decide) (by decide))
        obtain ⟨b724, q725, o726, ha727, ho728, hr729⟩ := SlAt.at (RowO.th (RowsO.at hRO730 (show (r.th - 1).toNat < ms.length by omega))).2.1 (map_get (iAt_get (show 0 < (mAt ms ((r.th - 1).toNat)).t.queue.length by omega)))
        refine wpo_indexE es_43 rfl rfl ha727 ho728 (by omega) (by omega) rfl ?_
        refine wpo_load1 (v := .int .i64 (iAt (mAt ms ((r.th - 1).toNat)).t.queue 0)) ot_3 rfl (hr729 0 _ rfl) rfl ?_
        refine wpo_assign (v := .int .i64 (iAt (mAt ms ((r.th - 1).toNat)).t.queue 0)) rfl rfl ?_
        refine wpo_nil ?_
        refine wpf_region ?_
        refine wpo_buildSlice (ps := []) (e := 3) (cs := (([] : List Int).flatMap icell).toArray) parts_nil (fun _ => by kernel_rfl) rfl ?_
        intro B731 w732 hN733
        have hlB731 := hN_geI hN733 hb128
        have k734 := ((k120.grown0 hN123.grw).grown hS127.grw (some_ne (by omega)))
        have lt_B_B731 := hN_gtl hN733 (k734).lt
        have lt_B101_B731 := hN_gtl hN733 (k129).lt
        have k735 := ((k124.grown0 hN123.grw).grown hS127.grw (some_ne (by omega)))
        have lt_B105_B731 := hN_gtl hN733 (k735).lt
        have lt_B111_B731 := hN_gtl hN733 (k716).lt
        have lt_B121_B731 := hN_gtl hN733 (hS127.blk).lt
        have hb736 := KeepsI.low hb128 hN733.grw
        refine wpo_fieldAddr (o' := 6) fo_45_5 rfl rfl rfl ?_
        have k737 := (k716.grown0 hN733.grw)
        refine wpo_load1 (v := .slice ((mAt ms ((r.th - 1).toNat)).qa) ((mAt ms ((r.th - 1).toNat)).t.queue.length) ((mAt ms ((r.th - 1).toNat)).qc)) ot_43 rfl (k737.cell rfl) rfl ?_
        have hRO738 := (RowsO.low hRO730 hN733.grw)
        refine wpo_tail (g := icell) (xs := (mAt ms ((r.th - 1).toNat)).t.queue) (e := 3) (sz := 1) (by kernel_rfl) (by kernel_rfl) rfl rfl rfl (by omega) (ownN_le (RowsO.at hRO738 (show (r.th - 1).toNat < ms.length by omega)).q) (RowO.th (RowsO.at hRO738 (show (r.th - 1).toNat < ms.length by omega))).2.1 rfl ?_
        intro a739 hs740
        have k741 := (k734.grown0 hN733.grw)
        have k742 := (k129.grown0 hN733.grw)
        have k743 := (k735.grown0 hN733.grw)
        have k744 := (hS127.blk.grown0 hN733.grw)
        refine wpo_appendN (g := icell) (ys := ([])) (zs := (((mAt ms ((r.th - 1).toNat)).t.queue).drop 1)) (lo := w.heap.size) mk_43 rfl wide_int (by omega) onec_int rfl rfl (OwnN.of (Own.rows wide_int hN733.blk (by simp)) hlB731) (SlAt.low hs740 (World.grownBy.refl _ _)) (fun h => by cases h) (by first | omega | exact Nat.le_of_ble_eq_true rfl | (simp only [List.length_nil, List.length_cons, List.length_append, List.length_replicate]; omega) | (simp only [List.length_drop, List.length_nil]; omega)) (by omega) hb736.size rfl ?_
        intro a745 cap746 w747 hO748 hg749 hor750
        have hg751 : World.grownBy w732 w747 (some B731) := hg749
        have hb752 := KeepsI.new hb736 hg751 (by omega)
        refine wpo_fieldAddr (o' := 6) fo_45_5 rfl rfl rfl ?_
        have k753 := (k737.grown hg751 (some_ne (by omega)))
        refine wpo_store1 (v := .slice a745 ((((mAt ms ((r.th - 1).toNat)).t.queue).drop 1).length) cap746) (cs' := #[.int .i64 ((mAt ms ((r.th - 1).toNat)).t.kind), .int .i64 ((mAt ms ((r.th - 1).toNat)).t.lab.s), .int .i64 ((mAt ms ((r.th - 1).toNat)).t.lab.v), .int .i64 ((mAt ms ((r.th - 1).toNat)).t.ve), .int .i64 ((mAt ms ((r.th - 1).toNat)).t.num), .slice ((mAt ms ((r.th - 1).toNat)).sa) ((mAt ms ((r.th - 1).toNat)).t.slots.length) ((mAt ms ((r.th - 1).toNat)).sc), .slice a745 ((((mAt ms ((r.th - 1).toNat)).t.queue).drop 1).length) cap746, .int .i64 ((mAt ms ((r.th - 1).toNat)).t.to)]) ot_43 rfl rfl rfl k753 (Nat.le_of_ble_eq_true rfl) rfl ?_
        intro w754 hS755
        have hb756 := KeepsI.new hb752 hS755.grw (by omega)
        refine wpo_nil ?_
        refine blk_n ?_
        refine thn_n ?_
        refine wpf_seq_region ?_
        refine wpo_move (v := .slice (some ⟨B, 0, none⟩) ms.length cap) rfl rfl ?_
        refine wpo_fieldAddr (o' := 0) fo_29_0 rfl rfl rfl ?_
        have k757 := ((k743.grown hg751 (some_ne (by omega))).grown hS755.grw (some_ne (by omega)))
        refine wpo_load1 (v := .int .i64 r.th) ot_3 rfl (k757.cell rfl) rfl ?_
        refine wpo_sub (c := r.th - 1) rfl rfl (by omega) (by omega) (by omega) rfl ?_
        refine wpo_loadn (vs := [.int .i64 ((mAt ms ((r.th - 1).toNat)).t.kind), .int .i64 ((mAt ms ((r.th - 1).toNat)).t.lab.s), .int .i64 ((mAt ms ((r.th - 1).toNat)).t.lab.v), .int .i64 ((mAt ms ((r.th - 1).toNat)).t.ve), .int .i64 ((mAt ms ((r.th - 1).toNat)).t.num), .slice ((mAt ms ((r.th - 1).toNat)).sa) ((mAt ms ((r.th - 1).toNat)).t.slots.length) ((mAt ms ((r.th - 1).toNat)).sc), .slice a745 ((((mAt ms ((r.th - 1).toNat)).t.queue).drop 1).length) cap746, .int .i64 ((mAt ms ((r.th - 1).toNat)).t.to)]) rt_45 rfl rfl (hS755.blk.rangeL 0 8 rfl) rfl ?_
        refine wpo_indexAddr (o' := (r.th - 1).toNat * 8) es_54 rfl rfl (by omega) (by omega) (by omega) rfl ?_
        have k758 := ((k741.grown hg751 (some_ne (by omega))).grown hS755.grw (some_ne (by omega)))
        have hRO762 := (RowsO.typB (RowsO.ge hRO738 hg751 hH (by omega)) hS755.grw k753 (by decide) (by decide))
        refine wpo_storenO (g := MTh.cells) (z' := (⟨⟨(mAt ms ((r.th - 1).toNat)).t.kind, ((mAt ms ((r.th - 1).toNat)).t.lab), (mAt ms ((r.th - 1).toNat)).t.ve, (mAt ms ((r.th - 1).toNat)).t.num, (mAt ms ((r.th - 1).toNat)).t.slots, ((mAt ms ((r.th - 1).toNat)).t.queue).drop 1, (mAt ms ((r.th - 1).toNat)).t.to⟩, (mAt ms ((r.th - 1).toNat)).sa, (mAt ms ((r.th - 1).toNat)).sc, a745, cap746⟩ : MTh)) rt_45 rfl rfl (onec_mth _) wide_mth k758 (by omega) rfl ?_
        intro w759 hO760 hg761
        have hb763 := KeepsI.own hb756 hg761 k758 (by decide) (by omega) (by omega)
        have hRO764 : RowsO 29 3 lo w759 (ms.set (r.th - 1).toNat (⟨⟨(mAt ms ((r.th - 1).toNat)).t.kind, ((mAt ms ((r.th - 1).toNat)).t.lab), (mAt ms ((r.th - 1).toNat)).t.ve, (mAt ms ((r.th - 1).toNat)).t.num, (mAt ms ((r.th - 1).toNat)).t.slots, ((mAt ms ((r.th - 1).toNat)).t.queue).drop 1, (mAt ms ((r.th - 1).toNat)).t.to⟩, (mAt ms ((r.th - 1).toNat)).sa, (mAt ms ((r.th - 1).toNat)).sc, a745, cap746⟩ : MTh)) := RowsO.setq (RowsO.own hRO762 hg761 k758 (by decide) (by decide)) (show (r.th - 1).toNat < ms.length by omega) (OwnN.mono (OwnN.typ (OwnN.typB hO748 hS755.grw k753 (by decide)) hg761 k758 (by decide)) hlow) ⟨rfl, rfl, rfl⟩
        refine wpo_nil ?_
        refine wpf_seq_region ?_
        refine wpo_move (v := .int .i64 (iAt (mAt ms ((r.th - 1).toNat)).t.queue 0)) rfl rfl ?_
        refine wpo_assign (v := .int .i64 (iAt (mAt ms ((r.th - 1).toNat)).t.queue 0)) rfl rfl ?_
        refine wpo_nil ?_
        refine wpf_ret ?_
        have hf : far (tabT ms) q r = (tabT (ms.set (r.th - 1).toNat (⟨⟨(mAt ms ((r.th - 1).toNat)).t.kind, ((mAt ms ((r.th - 1).toNat)).t.lab), (mAt ms ((r.th - 1).toNat)).t.ve, (mAt ms ((r.th - 1).toNat)).t.num, (mAt ms ((r.th - 1).toNat)).t.slots, ((mAt ms ((r.th - 1).toNat)).t.queue).drop 1, (mAt ms ((r.th - 1).toNat)).t.to⟩, (mAt ms ((r.th - 1).toNat)).sa, (mAt ms ((r.th - 1).toNat)).sc, a745, cap746⟩ : MTh)), (iAt (mAt ms ((r.th - 1).toNat)).t.queue 0)) := far_7 h714 (by omega) rfl
        exact ⟨.int .i64 (iAt (mAt ms ((r.th - 1).toNat)).t.queue 0), res1 rfl rfl, ms.set (r.th - 1).toNat (⟨⟨(mAt ms ((r.th - 1).toNat)).t.kind, ((mAt ms ((r.th - 1).toNat)).t.lab), (mAt ms ((r.th - 1).toNat)).t.ve, (mAt ms ((r.th - 1).toNat)).t.num, (mAt ms ((r.th - 1).toNat)).t.slots, ((mAt ms ((r.th - 1).toNat)).t.queue).drop 1, (mAt ms ((r.th - 1).toNat)).t.to⟩, (mAt ms ((r.th - 1).toNat)).sa, (mAt ms ((r.th - 1).toNat)).sc, a745, cap746⟩ : MTh), by rw [hf], by first | rfl | exact putT_len | (simp only [List.length_set, putT_len]), hO760, hRO764, by rw [hf], hb763⟩
      ·
       have h765 := of_decide_eq_false h714
       refine wpf_seq_region ?_
       refine wpo_eql (q := decide (q.kind = 8)) rfl rfl rfl rfl ?_
       refine wpo_assign (v := .bool (decide (q.kind = 8))) rfl rfl ?_
       refine wpo_nil ?_
       refine wpf_cond rfl (fun h766 => ?_) (fun h766 => ?_)
       ·
        have hq767 := of_decide_eq_true h766
        have hk8 := renewOk hrow (by omega)
        have h768 := of_decide_eq_true h766
        refine wpf_seq ?_
        refine wpf_seq_region ?_
        refine wpo_fieldAddr (o' := 3) fo_45_2 rfl rfl rfl ?_
        have k769 := ((hS117.blk.grown0 hN123.grw).grown hS127.grw (some_ne (by omega)))
        refine wpo_load1 (v := .int .i64 ((mAt ms ((r.th - 1).toNat)).t.ve)) ot_3 rfl (k769.cell rfl) rfl ?_
        refine wpo_geq (q := decide (5 ≤ (mAt ms ((r.th - 1).toNat)).t.ve)) rfl rfl rfl rfl ?_
        refine wpo_nil ?_
        refine wpf_cond rfl (fun h770 => ?_) (fun h770 => ?_)
        ·
         have h771 := of_decide_eq_true h770
         refine wpf_seq_region ?_
         refine wpo_assign (v := .int .i64 (-4)) rfl rfl ?_
         refine wpo_nil ?_
         refine wpf_ret ?_
         refine thn_r ?_
         refine blk_r ?_
         refine thn_r ?_
         have hRO772 := (RowsO.typB (RowsO.low (RowsO.typB (RowsO.low (RowsO.low (RowsO.low hR hN103.grw) hN107.grw) hN113.grw) hS117.grw hN113.blk (by decide) (by decide)) hN123.grw) hS127.grw hN123.blk (by decide) (by decide))
         have k773 := ((k120.grown0 hN123.grw).grown hS127.grw (some_ne (by omega)))
         have hf : far (tabT ms) q r = (tabT (ms), (-4)) := far_8n h766 (by omega)
         exact ⟨.int .i64 (-4), res1 rfl rfl, ms, by rw [hf], by first | rfl | exact putT_len | (simp only [List.length_set, putT_len]), k773, hRO772, by rw [hf], hb128⟩
        ·
         have h774 := of_decide_eq_false h770
         refine wpf_skip ?_
         refine thn_n ?_
         refine wpf_seq_region ?_
         refine wpo_fieldAddr (o' := 0) fo_45_0 rfl rfl rfl ?_
         refine wpo_load1 (v := .int .i64 ((mAt ms ((r.th - 1).toNat)).t.kind)) ot_3 rfl (k769.cell rfl) rfl ?_
         refine wpo_fieldAddr (o' := 1) fo_45_1 rfl rfl rfl ?_
         refine wpo_loadn (vs := [.int .i64 ((mAt ms ((r.th - 1).toNat)).t.lab.s), .int .i64 ((mAt ms ((r.th - 1).toNat)).t.lab.v)]) rt_40 rfl rfl (k769.rangeL 1 2 rfl) rfl ?_
         refine wpo_fieldAddr (o' := 7) fo_45_6 rfl rfl rfl ?_
         refine wpo_load1 (v := .int .i64 ((mAt ms ((r.th - 1).toNat)).t.to)) ot_3 rfl (k769.cell rfl) rfl ?_
         rcases bcases ((decide ((mAt ms ((r.th - 1).toNat)).t.kind = 2)) || (decide ((mAt ms ((r.th - 1).toNat)).t.kind = 3))) with h775 | h775
         ·
          have k776 := ((k120.grown0 hN123.grw).grown hS127.grw (some_ne (by omega)))
          have k777 := ((k124.grown0 hN123.grw).grown hS127.grw (some_ne (by omega)))
          have h778 : thingOk (⟨(mAt ms ((r.th - 1).toNat)).t.kind, ((mAt ms ((r.th - 1).toNat)).t.lab), 0, 0, zeros4, [], (mAt ms ((r.th - 1).toNat)).t.to⟩ : Th) = true := (newOk_y h775).symm.trans hk8
          refine wpo_call (vs := [.int .i64 ((mAt ms ((r.th - 1).toNat)).t.kind), .agg #[.int .i64 ((mAt ms ((r.th - 1).toNat)).t.lab.s), .int .i64 ((mAt ms ((r.th - 1).toNat)).t.lab.v)], .int .i64 ((mAt ms ((r.th - 1).toNat)).t.to)]) gf_23 (args_cons rfl (args_cons rfl (args_cons rfl args_nil))) rfl (sThingNew_yt ((mAt ms ((r.th - 1).toNat)).t.kind) ((mAt ms ((r.th - 1).toNat)).t.to) ((mAt ms ((r.th - 1).toNat)).t.lab) h775 hk8 _) ?_
          rintro _ w779 ⟨B781, cap782, B785, cap786, rfl, hge783, hO784, hge787, hO788, ne_B781_B785, hg780⟩
          have hb789 := KeepsI.low hb128 hg780
          have hlB781 := Nat.le_trans hb128.size hge783
          have lt_B_B781 := Nat.lt_of_lt_of_le (k776).lt hge783
          have lt_B101_B781 := Nat.lt_of_lt_of_le (k129).lt hge783
          have lt_B105_B781 := Nat.lt_of_lt_of_le (k777).lt hge783
          have lt_B111_B781 := Nat.lt_of_lt_of_le (k769).lt hge783
          have lt_B121_B781 := Nat.lt_of_lt_of_le (hS127.blk).lt hge783
          have hlB785 := Nat.le_trans hb128.size hge787
          have lt_B_B785 := Nat.lt_of_lt_of_le (k776).lt hge787
          have lt_B101_B785 := Nat.lt_of_lt_of_le (k129).lt hge787
          have lt_B105_B785 := Nat.lt_of_lt_of_le (k777).lt hge787
          have lt_B111_B785 := Nat.lt_of_lt_of_le (k769).lt hge787
          have lt_B121_B785 := Nat.lt_of_lt_of_le (hS127.blk).lt hge787
          refine wpo_move (v := .tuple #[.agg #[.int .i64 ((mAt ms ((r.th - 1).toNat)).t.kind), .int .i64 ((mAt ms ((r.th - 1).toNat)).t.lab.s), .int .i64 ((mAt ms ((r.th - 1).toNat)).t.lab.v), .int .i64 0, .int .i64 0, .slice (some ⟨B781, 0, none⟩) 4 cap782, .slice (some ⟨B785, 0, none⟩) 0 cap786, .int .i64 ((mAt ms ((r.th - 1).toNat)).t.to)], .bool true]) rfl rfl ?_
          refine wpo_extract (v := .agg #[.int .i64 ((mAt ms ((r.th - 1).toNat)).t.kind), .int .i64 ((mAt ms ((r.th - 1).toNat)).t.lab.s), .int .i64 ((mAt ms ((r.th - 1).toNat)).t.lab.v), .int .i64 0, .int .i64 0, .slice (some ⟨B781, 0, none⟩) 4 cap782, .slice (some ⟨B785, 0, none⟩) 0 cap786, .int .i64 ((mAt ms ((r.th - 1).toNat)).t.to)]) rfl rfl rfl ?_
          refine wpo_extract (v := .bool true) rfl rfl rfl ?_
          refine wpo_alloc (cs := #[.int .i64 0, .int .i64 0, .int .i64 0, .int .i64 0, .int .i64 0, .slice none 0 0, .slice none 0 0, .int .i64 0]) zt_45 rfl rfl ?_
          intro B790 w791 hN792
          have hlB790 := hN_geI hN792 hb789
          have k793 := (k776.grown0 hg780)
          have lt_B_B790 := hN_gtl hN792 (k793).lt
          have k794 := (k129.grown0 hg780)
          have lt_B101_B790 := hN_gtl hN792 (k794).lt
          have k795 := (k777.grown0 hg780)
          have lt_B105_B790 := hN_gtl hN792 (k795).lt
          have k796 := (k769.grown0 hg780)
          have lt_B111_B790 := hN_gtl hN792 (k796).lt
          have k797 := (hS127.blk.grown0 hg780)
          have lt_B121_B790 := hN_gtl hN792 (k797).lt
          have lt_B785_B790 := hN_gtl hN792 (hO788).lt
          have lt_B781_B790 := hN_gtl hN792 (hO784).lt
          have hb798 := KeepsI.low hb789 hN792.grw
          refine wpo_storen (vs := [.int .i64 ((mAt ms ((r.th - 1).toNat)).t.kind), .int .i64 ((mAt ms ((r.th - 1).toNat)).t.lab.s), .int .i64 ((mAt ms ((r.th - 1).toNat)).t.lab.v), .int .i64 0, .int .i64 0, .slice (some ⟨B781, 0, none⟩) 4 cap782, .slice (some ⟨B785, 0, none⟩) 0 cap786, .int .i64 ((mAt ms ((r.th - 1).toNat)).t.to)]) (cs' := #[.int .i64 ((mAt ms ((r.th - 1).toNat)).t.kind), .int .i64 ((mAt ms ((r.th - 1).toNat)).t.lab.s), .int .i64 ((mAt ms ((r.th - 1).toNat)).t.lab.v), .int .i64 0, .int .i64 0, .slice (some ⟨B781, 0, none⟩) 4 cap782, .slice (some ⟨B785, 0, none⟩) 0 cap786, .int .i64 ((mAt ms ((r.th - 1).toNat)).t.to)]) rt_45 rfl rfl rfl (by simp [Value.oneCell']) hN792.blk (Nat.le_of_ble_eq_true rfl) rfl ?_
          intro w799 hS800
          have hb801 := KeepsI.new hb798 hS800.grw (by omega)
          refine wpo_assign (v := .bool true) rfl rfl ?_
          refine wpo_nil ?_
          refine wpf_seq_region ?_
          refine wpo_fieldAddr (o' := 3) fo_45_2 rfl rfl rfl ?_
          have k802 := ((k796.grown0 hN792.grw).grown hS800.grw (some_ne (by omega)))
          refine wpo_load1 (v := .int .i64 ((mAt ms ((r.th - 1).toNat)).t.ve)) ot_3 rfl (k802.cell rfl) rfl ?_
          refine wpo_add (c := (mAt ms ((r.th - 1).toNat)).t.ve + 1) rfl rfl (by omega) (by omega) (by omega) rfl ?_
          refine wpo_fieldAddr (o' := 3) fo_45_2 rfl rfl rfl ?_
          refine wpo_store1 (v := .int .i64 ((mAt ms ((r.th - 1).toNat)).t.ve + 1)) (cs' := #[.int .i64 ((mAt ms ((r.th - 1).toNat)).t.kind), .int .i64 ((mAt ms ((r.th - 1).toNat)).t.lab.s), .int .i64 ((mAt ms ((r.th - 1).toNat)).t.lab.v), .int .i64 ((mAt ms ((r.th - 1).toNat)).t.ve + 1), .int .i64 0, .slice (some ⟨B781, 0, none⟩) 4 cap782, .slice (some ⟨B785, 0, none⟩) 0 cap786, .int .i64 ((mAt ms ((r.th - 1).toNat)).t.to)]) ot_3 rfl rfl rfl hS800.blk (Nat.le_of_ble_eq_true rfl) rfl ?_
          intro w803 hS804
          have hb805 := KeepsI.new hb801 hS804.grw (by omega)
          refine wpo_nil ?_
          refine wpf_region ?_
          refine wpo_loadn (vs := [.int .i64 ((mAt ms ((r.th - 1).toNat)).t.kind), .int .i64 ((mAt ms ((r.th - 1).toNat)).t.lab.s), .int .i64 ((mAt ms ((r.th - 1).toNat)).t.lab.v), .int .i64 ((mAt ms ((r.th - 1).toNat)).t.ve + 1), .int .i64 0, .slice (some ⟨B781, 0, none⟩) 4 cap782, .slice (some ⟨B785, 0, none⟩) 0 cap786, .int .i64 ((mAt ms ((r.th - 1).toNat)).t.to)]) rt_45 rfl rfl (hS804.blk.rangeL 0 8 rfl) rfl ?_
          have k806 := (k802.grown hS804.grw (some_ne (by omega)))
          refine wpo_storen (vs := [.int .i64 ((mAt ms ((r.th - 1).toNat)).t.kind), .int .i64 ((mAt ms ((r.th - 1).toNat)).t.lab.s), .int .i64 ((mAt ms ((r.th - 1).toNat)).t.lab.v), .int .i64 ((mAt ms ((r.th - 1).toNat)).t.ve + 1), .int .i64 0, .slice (some ⟨B781, 0, none⟩) 4 cap782, .slice (some ⟨B785, 0, none⟩) 0 cap786, .int .i64 ((mAt ms ((r.th - 1).toNat)).t.to)]) (cs' := #[.int .i64 ((mAt ms ((r.th - 1).toNat)).t.kind), .int .i64 ((mAt ms ((r.th - 1).toNat)).t.lab.s), .int .i64 ((mAt ms ((r.th - 1).toNat)).t.lab.v), .int .i64 ((mAt ms ((r.th - 1).toNat)).t.ve + 1), .int .i64 0, .slice (some ⟨B781, 0, none⟩) 4 cap782, .slice (some ⟨B785, 0, none⟩) 0 cap786, .int .i64 ((mAt ms ((r.th - 1).toNat)).t.to)]) rt_45 rfl rfl rfl (by simp [Value.oneCell']) k806 (Nat.le_of_ble_eq_true rfl) rfl ?_
          intro w807 hS808
          have hb809 := KeepsI.new hb805 hS808.grw (by omega)
          refine wpo_nil ?_
          refine blk_n ?_
          refine thn_n ?_
          refine wpf_seq_region ?_
          refine wpo_move (v := .slice (some ⟨B, 0, none⟩) ms.length cap) rfl rfl ?_
          refine wpo_fieldAddr (o' := 0) fo_29_0 rfl rfl rfl ?_
          have k810 := ((((k795.grown0 hN792.grw).grown hS800.grw (some_ne (by omega))).grown hS804.grw (some_ne (by omega))).grown hS808.grw (some_ne (by omega)))
          refine wpo_load1 (v := .int .i64 r.th) ot_3 rfl (k810.cell rfl) rfl ?_
          refine wpo_sub (c := r.th - 1) rfl rfl (by omega) (by omega) (by omega) rfl ?_
          refine wpo_loadn (vs := [.int .i64 ((mAt ms ((r.th - 1).toNat)).t.kind), .int .i64 ((mAt ms ((r.th - 1).toNat)).t.lab.s), .int .i64 ((mAt ms ((r.th - 1).toNat)).t.lab.v), .int .i64 ((mAt ms ((r.th - 1).toNat)).t.ve + 1), .int .i64 0, .slice (some ⟨B781, 0, none⟩) 4 cap782, .slice (some ⟨B785, 0, none⟩) 0 cap786, .int .i64 ((mAt ms ((r.th - 1).toNat)).t.to)]) rt_45 rfl rfl (hS808.blk.rangeL 0 8 rfl) rfl ?_
          refine wpo_indexAddr (o' := (r.th - 1).toNat * 8) es_54 rfl rfl (by omega) (by omega) (by omega) rfl ?_
          have k811 := ((((k793.grown0 hN792.grw).grown hS800.grw (some_ne (by omega))).grown hS804.grw (some_ne (by omega))).grown hS808.grw (some_ne (by omega)))
          have hRO815 := (RowsO.typB (RowsO.typB (RowsO.typB (RowsO.low (RowsO.low (RowsO.typB (RowsO.low (RowsO.typB (RowsO.low (RowsO.low (RowsO.low hR hN103.grw) hN107.grw) hN113.grw) hS117.grw hN113.blk (by decide) (by decide)) hN123.grw) hS127.grw hN123.blk (by decide) (by decide)) hg780) hN792.grw) hS800.grw hN792.blk (by decide) (by decide)) hS804.grw hS800.blk (by decide) (by decide)) hS808.grw k806 (by decide) (by decide))
          have k816 := ((((hO784.grown0 hN792.grw).grown hS800.grw (some_ne (by omega))).grown hS804.grw (some_ne (by omega))).grown hS808.grw (some_ne (by omega)))
          have k817 := ((((hO788.grown0 hN792.grw).grown hS800.grw (some_ne (by omega))).grown hS804.grw (some_ne (by omega))).grown hS808.grw (some_ne (by omega)))
          refine wpo_storenO (g := MTh.cells) (z' := (⟨⟨(mAt ms ((r.th - 1).toNat)).t.kind, ((mAt ms ((r.th - 1).toNat)).t.lab), (mAt ms ((r.th - 1).toNat)).t.ve + 1, 0, zeros4, [], (mAt ms ((r.th - 1).toNat)).t.to⟩, some ⟨B781, 0, none⟩, cap782, some ⟨B785, 0, none⟩, cap786⟩ : MTh)) rt_45 rfl rfl (onec_mth _) wide_mth k811 (by omega) rfl ?_
          intro w812 hO813 hg814
          have hb818 := KeepsI.own hb809 hg814 k811 (by decide) (by omega) (by omega)
          have k820 := (k816.grown hg814 (some_ne (by omega)))
          have k821 := (k817.grown hg814 (some_ne (by omega)))
          have hRO819 : RowsO 29 3 lo w812 (ms.set (r.th - 1).toNat (⟨⟨(mAt ms ((r.th - 1).toNat)).t.kind, ((mAt ms ((r.th - 1).toNat)).t.lab), (mAt ms ((r.th - 1).toNat)).t.ve + 1, 0, zeros4, [], (mAt ms ((r.th - 1).toNat)).t.to⟩, some ⟨B781, 0, none⟩, cap782, some ⟨B785, 0, none⟩, cap786⟩ : MTh)) := RowsO.setn (RowsO.own hRO815 hg814 k811 (by decide) (by decide)) (show (r.th - 1).toNat < ms.length by omega) ⟨(OwnN.mono (OwnN.of k820 hlB781) hlow), (OwnN.mono (OwnN.of k821 hlB785) hlow)⟩ hH (fun S e => by simp only [Option.some.injEq, Addr.mk.injEq, and_true, reduceCtorEq] at e; omega)
          refine wpo_nil ?_
          refine wpf_seq_region ?_
          refine wpo_move (v := .int .i64 0) rfl rfl ?_
          refine wpo_assign (v := .int .i64 0) rfl rfl ?_
          refine wpo_nil ?_
          refine wpf_ret ?_
          have hf : far (tabT ms) q r = (tabT (ms.set (r.th - 1).toNat (⟨⟨(mAt ms ((r.th - 1).toNat)).t.kind, ((mAt ms ((r.th - 1).toNat)).t.lab), (mAt ms ((r.th - 1).toNat)).t.ve + 1, 0, zeros4, [], (mAt ms ((r.th - 1).toNat)).t.to⟩, some ⟨B781, 0, none⟩, cap782, some ⟨B785, 0, none⟩, cap786⟩ : MTh)), 0) := far_8 h766 (by omega) (renewed_y h775)
          exact ⟨.int .i64 0, res1 rfl rfl, ms.set (r.th - 1).toNat (⟨⟨(mAt ms ((r.th - 1).toNat)).t.kind, ((mAt ms ((r.th - 1).toNat)).t.lab), (mAt ms ((r.th - 1).toNat)).t.ve + 1, 0, zeros4, [], (mAt ms ((r.th - 1).toNat)).t.to⟩, some ⟨B781, 0, none⟩, cap782, some ⟨B785, 0, none⟩, cap786⟩ : MTh), by rw [hf], by first | rfl | exact putT_len | (simp only [List.length_set, putT_len]), hO813, hRO819, by rw [hf], hb818⟩
         ·
          have h822 := or_l h775
          have h823 := of_decide_eq_false h822
          have h824 := or_r h775
          have h825 := of_decide_eq_false h824
          have k826 := ((k120.grown0 hN123.grw).grown hS127.grw (some_ne (by omega)))
          have k827 := ((k124.grown0 hN123.grw).grown hS127.grw (some_ne (by omega)))
          have h828 : thingOk (⟨(mAt ms ((r.th - 1).toNat)).t.kind, ((mAt ms ((r.th - 1).toNat)).t.lab), 0, 0, [], [], (mAt ms ((r.th - 1).toNat)).t.to⟩ : Th) = true := (newOk_n h775).symm.trans hk8
          refine wpo_call (vs := [.int .i64 ((mAt ms ((r.th - 1).toNat)).t.kind), .agg #[.int .i64 ((mAt ms ((r.th - 1).toNat)).t.lab.s), .int .i64 ((mAt ms ((r.th - 1).toNat)).t.lab.v)], .int .i64 ((mAt ms ((r.th - 1).toNat)).t.to)]) gf_23 (args_cons rfl (args_cons rfl (args_cons rfl args_nil))) rfl (sThingNew_nt ((mAt ms ((r.th - 1).toNat)).t.kind) ((mAt ms ((r.th - 1).toNat)).t.to) ((mAt ms ((r.th - 1).toNat)).t.lab) h775 hk8 _) ?_
          rintro _ w829 ⟨B831, cap832, B835, cap836, rfl, hge833, hO834, hge837, hO838, ne_B831_B835, hg830⟩
          have hb839 := KeepsI.low hb128 hg830
          have hlB831 := Nat.le_trans hb128.size hge833
          have lt_B_B831 := Nat.lt_of_lt_of_le (k826).lt hge833
          have lt_B101_B831 := Nat.lt_of_lt_of_le (k129).lt hge833
          have lt_B105_B831 := Nat.lt_of_lt_of_le (k827).lt hge833
          have lt_B111_B831 := Nat.lt_of_lt_of_le (k769).lt hge833
          have lt_B121_B831 := Nat.lt_of_lt_of_le (hS127.blk).lt hge833
          have hlB835 := Nat.le_trans hb128.size hge837
          have lt_B_B835 := Nat.lt_of_lt_of_le (k826).lt hge837
          have lt_B101_B835 := Nat.lt_of_lt_of_le (k129).lt hge837
          have lt_B105_B835 := Nat.lt_of_lt_of_le (k827).lt hge837
          have lt_B111_B835 := Nat.lt_of_lt_of_le (k769).lt hge837
          have lt_B121_B835 := Nat.lt_of_lt_of_le (hS127.blk).lt hge837
          refine wpo_move (v := .tuple #[.agg #[.int .i64 ((mAt ms ((r.th - 1).toNat)).t.kind), .int .i64 ((mAt ms ((r.th - 1).toNat)).t.lab.s), .int .i64 ((mAt ms ((r.th - 1).toNat)).t.lab.v), .int .i64 0, .int .i64 0, .slice (some ⟨B831, 0, none⟩) 0 cap832, .slice (some ⟨B835, 0, none⟩) 0 cap836, .int .i64 ((mAt ms ((r.th - 1).toNat)).t.to)], .bool true]) rfl rfl ?_
          refine wpo_extract (v := .agg #[.int .i64 ((mAt ms ((r.th - 1).toNat)).t.kind), .int .i64 ((mAt ms ((r.th - 1).toNat)).t.lab.s), .int .i64 ((mAt ms ((r.th - 1).toNat)).t.lab.v), .int .i64 0, .int .i64 0, .slice (some ⟨B831, 0, none⟩) 0 cap832, .slice (some ⟨B835, 0, none⟩) 0 cap836, .int .i64 ((mAt ms ((r.th - 1).toNat)).t.to)]) rfl rfl rfl ?_
          refine wpo_extract (v := .bool true) rfl rfl rfl ?_
          refine wpo_alloc (cs := #[.int .i64 0, .int .i64 0, .int .i64 0, .int .i64 0, .int .i64 0, .slice none 0 0, .slice none 0 0, .int .i64 0]) zt_45 rfl rfl ?_
          intro B840 w841 hN842
          have hlB840 := hN_geI hN842 hb839
          have k843 := (k826.grown0 hg830)
          have lt_B_B840 := hN_gtl hN842 (k843).lt
          have k844 := (k129.grown0 hg830)
          have lt_B101_B840 := hN_gtl hN842 (k844).lt
          have k845 := (k827.grown0 hg830)
          have lt_B105_B840 := hN_gtl hN842 (k845).lt
          have k846 := (k769.grown0 hg830)
          have lt_B111_B840 := hN_gtl hN842 (k846).lt
          have k847 := (hS127.blk.grown0 hg830)
          have lt_B121_B840 := hN_gtl hN842 (k847).lt
          have lt_B835_B840 := hN_gtl hN842 (hO838).lt
          have lt_B831_B840 := hN_gtl hN842 (hO834).lt
          have hb848 := KeepsI.low hb839 hN842.grw
          refine wpo_storen (vs := [.int .i64 ((mAt ms ((r.th - 1).toNat)).t.kind), .int .i64 ((mAt ms ((r.th - 1).toNat)).t.lab.s), .int .i64 ((mAt ms ((r.th - 1).toNat)).t.lab.v), .int .i64 0, .int .i64 0, .slice (some ⟨B831, 0, none⟩) 0 cap832, .slice (some ⟨B835, 0, none⟩) 0 cap836, .int .i64 ((mAt ms ((r.th - 1).toNat)).t.to)]) (cs' := #[.int .i64 ((mAt ms ((r.th - 1).toNat)).t.kind), .int .i64 ((mAt ms ((r.th - 1).toNat)).t.lab.s), .int .i64 ((mAt ms ((r.th - 1).toNat)).t.lab.v), .int .i64 0, .int .i64 0, .slice (some ⟨B831, 0, none⟩) 0 cap832, .slice (some ⟨B835, 0, none⟩) 0 cap836, .int .i64 ((mAt ms ((r.th - 1).toNat)).t.to)]) rt_45 rfl rfl rfl (by simp [Value.oneCell']) hN842.blk (Nat.le_of_ble_eq_true rfl) rfl ?_
          intro w849 hS850
          have hb851 := KeepsI.new hb848 hS850.grw (by omega)
          refine wpo_assign (v := .bool true) rfl rfl ?_
          refine wpo_nil ?_
          refine wpf_seq_region ?_
          refine wpo_fieldAddr (o' := 3) fo_45_2 rfl rfl rfl ?_
          have k852 := ((k846.grown0 hN842.grw).grown hS850.grw (some_ne (by omega)))
          refine wpo_load1 (v := .int .i64 ((mAt ms ((r.th - 1).toNat)).t.ve)) ot_3 rfl (k852.cell rfl) rfl ?_
          refine wpo_add (c := (mAt ms ((r.th - 1).toNat)).t.ve + 1) rfl rfl (by omega) (by omega) (by omega) rfl ?_
          refine wpo_fieldAddr (o' := 3) fo_45_2 rfl rfl rfl ?_
          refine wpo_store1 (v := .int .i64 ((mAt ms ((r.th - 1).toNat)).t.ve + 1)) (cs' := #[.int .i64 ((mAt ms ((r.th - 1).toNat)).t.kind), .int .i64 ((mAt ms ((r.th - 1).toNat)).t.lab.s), .int .i64 ((mAt ms ((r.th - 1).toNat)).t.lab.v), .int .i64 ((mAt ms ((r.th - 1).toNat)).t.ve + 1), .int .i64 0, .slice (some ⟨B831, 0, none⟩) 0 cap832, .slice (some ⟨B835, 0, none⟩) 0 cap836, .int .i64 ((mAt ms ((r.th - 1).toNat)).t.to)]) ot_3 rfl rfl rfl hS850.blk (Nat.le_of_ble_eq_true rfl) rfl ?_
          intro w853 hS854
          have hb855 := KeepsI.new hb851 hS854.grw (by omega)
          refine wpo_nil ?_
          refine wpf_region ?_
          refine wpo_loadn (vs := [.int .i64 ((mAt ms ((r.th - 1).toNat)).t.kind), .int .i64 ((mAt ms ((r.th - 1).toNat)).t.lab.s), .int .i64 ((mAt ms ((r.th - 1).toNat)).t.lab.v), .int .i64 ((mAt ms ((r.th - 1).toNat)).t.ve + 1), .int .i64 0, .slice (some ⟨B831, 0, none⟩) 0 cap832, .slice (some ⟨B835, 0, none⟩) 0 cap836, .int .i64 ((mAt ms ((r.th - 1).toNat)).t.to)]) rt_45 rfl rfl (hS854.blk.rangeL 0 8 rfl) rfl ?_
          have k856 := (k852.grown hS854.grw (some_ne (by omega)))
          refine wpo_storen (vs := [.int .i64 ((mAt ms ((r.th - 1).toNat)).t.kind), .int .i64 ((mAt ms ((r.th - 1).toNat)).t.lab.s), .int .i64 ((mAt ms ((r.th - 1).toNat)).t.lab.v), .int .i64 ((mAt ms ((r.th - 1).toNat)).t.ve + 1), .int .i64 0, .slice (some ⟨B831, 0, none⟩) 0 cap832, .slice (some ⟨B835, 0, none⟩) 0 cap836, .int .i64 ((mAt ms ((r.th - 1).toNat)).t.to)]) (cs' := #[.int .i64 ((mAt ms ((r.th - 1).toNat)).t.kind), .int .i64 ((mAt ms ((r.th - 1).toNat)).t.lab.s), .int .i64 ((mAt ms ((r.th - 1).toNat)).t.lab.v), .int .i64 ((mAt ms ((r.th - 1).toNat)).t.ve + 1), .int .i64 0, .slice (some ⟨B831, 0, none⟩) 0 cap832, .slice (some ⟨B835, 0, none⟩) 0 cap836, .int .i64 ((mAt ms ((r.th - 1).toNat)).t.to)]) rt_45 rfl rfl rfl (by simp [Value.oneCell']) k856 (Nat.le_of_ble_eq_true rfl) rfl ?_
          intro w857 hS858
          have hb859 := KeepsI.new hb855 hS858.grw (by omega)
          refine wpo_nil ?_
          refine blk_n ?_
          refine thn_n ?_
          refine wpf_seq_region ?_
          refine wpo_move (v := .slice (some ⟨B, 0, none⟩) ms.length cap) rfl rfl ?_
          refine wpo_fieldAddr (o' := 0) fo_29_0 rfl rfl rfl ?_
          have k860 := ((((k845.grown0 hN842.grw).grown hS850.grw (some_ne (by omega))).grown hS854.grw (some_ne (by omega))).grown hS858.grw (some_ne (by omega)))
          refine wpo_load1 (v := .int .i64 r.th) ot_3 rfl (k860.cell rfl) rfl ?_
          refine wpo_sub (c := r.th - 1) rfl rfl (by omega) (by omega) (by omega) rfl ?_
          refine wpo_loadn (vs := [.int .i64 ((mAt ms ((r.th - 1).toNat)).t.kind), .int .i64 ((mAt ms ((r.th - 1).toNat)).t.lab.s), .int .i64 ((mAt ms ((r.th - 1).toNat)).t.lab.v), .int .i64 ((mAt ms ((r.th - 1).toNat)).t.ve + 1), .int .i64 0, .slice (some ⟨B831, 0, none⟩) 0 cap832, .slice (some ⟨B835, 0, none⟩) 0 cap836, .int .i64 ((mAt ms ((r.th - 1).toNat)).t.to)]) rt_45 rfl rfl (hS858.blk.rangeL 0 8 rfl) rfl ?_
          refine wpo_indexAddr (o' := (r.th - 1).toNat * 8) es_54 rfl rfl (by omega) (by omega) (by omega) rfl ?_
          have k861 := ((((k843.grown0 hN842.grw).grown hS850.grw (some_ne (by omega))).grown hS854.grw (some_ne (by omega))).grown hS858.grw (some_ne (by omega)))
          have hRO865 := (RowsO.typB (RowsO.typB (RowsO.typB (RowsO.low (RowsO.low (RowsO.typB (RowsO.low (RowsO.typB (RowsO.low (RowsO.low (RowsO.low hR hN103.grw) hN107.grw) hN113.grw) hS117.grw hN113.blk (by decide) (by decide)) hN123.grw) hS127.grw hN123.blk (by decide) (by decide)) hg830) hN842.grw) hS850.grw hN842.blk (by decide) (by decide)) hS854.grw hS850.blk (by decide) (by decide)) hS858.grw k856 (by decide) (by decide))
          have k866 := ((((hO834.grown0 hN842.grw).grown hS850.grw (some_ne (by omega))).grown hS854.grw (some_ne (by omega))).grown hS858.grw (some_ne (by omega)))
          have k867 := ((((hO838.grown0 hN842.grw).grown hS850.grw (some_ne (by omega))).grown hS854.grw (some_ne (by omega))).grown hS858.grw (some_ne (by omega)))
          refine wpo_storenO (g := MTh.cells) (z' := (⟨⟨(mAt ms ((r.th - 1).toNat)).t.kind, ((mAt ms ((r.th - 1).toNat)).t.lab), (mAt ms ((r.th - 1).toNat)).t.ve + 1, 0, [], [], (mAt ms ((r.th - 1).toNat)).t.to⟩, some ⟨B831, 0, none⟩, cap832, some ⟨B835, 0, none⟩, cap836⟩ : MTh)) rt_45 rfl rfl (onec_mth _) wide_mth k861 (by omega) rfl ?_
          intro w862 hO863 hg864
          have hb868 := KeepsI.own hb859 hg864 k861 (by decide) (by omega) (by omega)
          have k870 := (k866.grown hg864 (some_ne (by omega)))
          have k871 := (k867.grown hg864 (some_ne (by omega)))
          have hRO869 : RowsO 29 3 lo w862 (ms.set (r.th - 1).toNat (⟨⟨(mAt ms ((r.th - 1).toNat)).t.kind, ((mAt ms ((r.th - 1).toNat)).t.lab), (mAt ms ((r.th - 1).toNat)).t.ve + 1, 0, [], [], (mAt ms ((r.th - 1).toNat)).t.to⟩, some ⟨B831, 0, none⟩, cap832, some ⟨B835, 0, none⟩, cap836⟩ : MTh)) := RowsO.setn (RowsO.own hRO865 hg864 k861 (by decide) (by decide)) (show (r.th - 1).toNat < ms.length by omega) ⟨(OwnN.mono (OwnN.of k870 hlB831) hlow), (OwnN.mono (OwnN.of k871 hlB835) hlow)⟩ hH (fun S e => by simp only [Option.some.injEq, Addr.mk.injEq, and_true, reduceCtorEq] at e; omega)
          refine wpo_nil ?_
          refine wpf_seq_region ?_
          refine wpo_move (v := .int .i64 0) rfl rfl ?_
          refine wpo_assign (v := .int .i64 0) rfl rfl ?_
          refine wpo_nil ?_
          refine wpf_ret ?_
          have hf : far (tabT ms) q r = (tabT (ms.set (r.th - 1).toNat (⟨⟨(mAt ms ((r.th - 1).toNat)).t.kind, ((mAt ms ((r.th - 1).toNat)).t.lab), (mAt ms ((r.th - 1).toNat)).t.ve + 1, 0, [], [], (mAt ms ((r.th - 1).toNat)).t.to⟩, some ⟨B831, 0, none⟩, cap832, some ⟨B835, 0, none⟩, cap836⟩ : MTh)), 0) := far_8 h766 (by omega) (renewed_n h775)
          exact ⟨.int .i64 0, res1 rfl rfl, ms.set (r.th - 1).toNat (⟨⟨(mAt ms ((r.th - 1).toNat)).t.kind, ((mAt ms ((r.th - 1).toNat)).t.lab), (mAt ms ((r.th - 1).toNat)).t.ve + 1, 0, [], [], (mAt ms ((r.th - 1).toNat)).t.to⟩, some ⟨B831, 0, none⟩, cap832, some ⟨B835, 0, none⟩, cap836⟩ : MTh), by rw [hf], by first | rfl | exact putT_len | (simp only [List.length_set, putT_len]), hO863, hRO869, by rw [hf], hb868⟩
       ·
        have h872 := of_decide_eq_false h766
        refine wpf_seq_region ?_
        refine wpo_eql (q := decide (q.kind = 9)) rfl rfl rfl rfl ?_
        refine wpo_assign (v := .bool (decide (q.kind = 9))) rfl rfl ?_
        refine wpo_nil ?_
        refine wpf_cond rfl (fun h873 => ?_) (fun h873 => ?_)
        ·
         have hq874 := of_decide_eq_true h873
         have hg9 := kindAt_parts (gate_to hT (by rw [tabT_len]; omega) (by rw [← mAt_th]; omega))
         rw [← mAt_th] at hg9
         have h875 := of_decide_eq_true h873
         refine wpf_seq_region ?_
         refine wpo_fieldAddr (o' := 4) fo_45_3 rfl rfl rfl ?_
         have k876 := ((hS117.blk.grown0 hN123.grw).grown hS127.grw (some_ne (by omega)))
         refine wpo_load1 (v := .int .i64 ((mAt ms ((r.th - 1).toNat)).t.num)) ot_3 rfl (k876.cell rfl) rfl ?_
         refine wpo_add (c := (mAt ms ((r.th - 1).toNat)).t.num + 1) rfl rfl (by omega) (by omega) (by omega) rfl ?_
         refine wpo_min (c := min ((mAt ms ((r.th - 1).toNat)).t.num + 1) 99) rfl rfl rfl rfl ?_
         refine wpo_fieldAddr (o' := 4) fo_45_3 rfl rfl rfl ?_
         refine wpo_store1 (v := .int .i64 (min ((mAt ms ((r.th - 1).toNat)).t.num + 1) 99)) (cs' := #[.int .i64 ((mAt ms ((r.th - 1).toNat)).t.kind), .int .i64 ((mAt ms ((r.th - 1).toNat)).t.lab.s), .int .i64 ((mAt ms ((r.th - 1).toNat)).t.lab.v), .int .i64 ((mAt ms ((r.th - 1).toNat)).t.ve), .int .i64 (min ((mAt ms ((r.th - 1).toNat)).t.num + 1) 99), .slice ((mAt ms ((r.th - 1).toNat)).sa) ((mAt ms ((r.th - 1).toNat)).t.slots.length) ((mAt ms ((r.th - 1).toNat)).sc), .slice ((mAt ms ((r.th - 1).toNat)).qa) ((mAt ms ((r.th - 1).toNat)).t.queue.length) ((mAt ms ((r.th - 1).toNat)).qc), .int .i64 ((mAt ms ((r.th - 1).toNat)).t.to)]) ot_3 rfl rfl rfl k876 (Nat.le_of_ble_eq_true rfl) rfl ?_
         intro w877 hS878
         have hb879 := KeepsI.new hb128 hS878.grw (by omega)
         refine wpo_nil ?_
         refine wpf_region ?_
         refine wpo_move (v := .slice (some ⟨B, 0, none⟩) ms.length cap) rfl rfl ?_
         refine wpo_fieldAddr (o' := 7) fo_45_6 rfl rfl rfl ?_
         refine wpo_load1 (v := .int .i64 ((mAt ms ((r.th - 1).toNat)).t.to)) ot_3 rfl (hS878.blk.cell rfl) rfl ?_
         refine wpo_sub (c := ((mAt ms ((r.th - 1).toNat)).t.to) - 1) rfl rfl (by omega) (by omega) (by omega) rfl ?_
         refine wpo_fieldAddr (o' := 4) fo_76_4 rfl rfl rfl ?_
         have k880 := (k129.grown hS878.grw (some_ne (by omega)))
         refine wpo_load1 (v := .int .i64 q.n) ot_3 rfl (k880.cell rfl) rfl ?_
         refine wpo_rem (c := q.n % 2) rfl rfl (by omega) (by omega) (by omega) rfl rfl ?_
         refine wpo_indexAddr (o' := (((mAt ms ((r.th - 1).toNat)).t.to) - 1).toNat * 8) es_54 rfl rfl (by omega) (by omega) (by omega) rfl ?_
         refine wpo_fieldAddr (o' := (((mAt ms ((r.th - 1).toNat)).t.to) - 1).toNat * 8 + 4) fo_45_3 rfl rfl rfl ?_
         have k881 := (((k120.grown0 hN123.grw).grown hS127.grw (some_ne (by omega))).grown hS878.grw (some_ne (by omega)))
         have hRO885 := (RowsO.typB (RowsO.typB (RowsO.low (RowsO.typB (RowsO.low (RowsO.low (RowsO.low hR hN103.grw) hN107.grw) hN113.grw) hS117.grw hN113.blk (by decide) (by decide)) hN123.grw) hS127.grw hN123.blk (by decide) (by decide)) hS878.grw k876 (by decide) (by decide))
         refine wpo_store1O (g := MTh.cells) (j := 4) (z := (mAt ms ((((mAt ms ((r.th - 1).toNat)).t.to) - 1).toNat))) (z' := (⟨⟨(mAt ms ((((mAt ms ((r.th - 1).toNat)).t.to) - 1).toNat)).t.kind, ((mAt ms ((((mAt ms ((r.th - 1).toNat)).t.to) - 1).toNat)).t.lab), (mAt ms ((((mAt ms ((r.th - 1).toNat)).t.to) - 1).toNat)).t.ve, q.n % 2, (mAt ms ((((mAt ms ((r.th - 1).toNat)).t.to) - 1).toNat)).t.slots, (mAt ms ((((mAt ms ((r.th - 1).toNat)).t.to) - 1).toNat)).t.queue, (mAt ms ((((mAt ms ((r.th - 1).toNat)).t.to) - 1).toNat)).t.to⟩, (mAt ms ((((mAt ms ((r.th - 1).toNat)).t.to) - 1).toNat)).sa, (mAt ms ((((mAt ms ((r.th - 1).toNat)).t.to) - 1).toNat)).sc, (mAt ms ((((mAt ms ((r.th - 1).toNat)).t.to) - 1).toNat)).qa, (mAt ms ((((mAt ms ((r.th - 1).toNat)).t.to) - 1).toNat)).qc⟩ : MTh)) (v := .int .i64 (q.n % 2)) ot_3 rfl rfl rfl wide_mth k881 (mAt_get (show (((mAt ms ((r.th - 1).toNat)).t.to) - 1).toNat < ms.length by omega)) (by omega) rfl rfl ?_
         intro w882 hO883 hg884
         have hb886 := KeepsI.own hb879 hg884 k881 (by decide) (by omega) (by omega)
         have hRO887 : RowsO 29 3 lo w882 (ms.set (((mAt ms ((r.th - 1).toNat)).t.to) - 1).toNat (⟨⟨(mAt ms ((((mAt ms ((r.th - 1).toNat)).t.to) - 1).toNat)).t.kind, ((mAt ms ((((mAt ms ((r.th - 1).toNat)).t.to) - 1).toNat)).t.lab), (mAt ms ((((mAt ms ((r.th - 1).toNat)).t.to) - 1).toNat)).t.ve, q.n % 2, (mAt ms ((((mAt ms ((r.th - 1).toNat)).t.to) - 1).toNat)).t.slots, (mAt ms ((((mAt ms ((r.th - 1).toNat)).t.to) - 1).toNat)).t.queue, (mAt ms ((((mAt ms ((r.th - 1).toNat)).t.to) - 1).toNat)).t.to⟩, (mAt ms ((((mAt ms ((r.th - 1).toNat)).t.to) - 1).toNat)).sa, (mAt ms ((((mAt ms ((r.th - 1).toNat)).t.to) - 1).toNat)).sc, (mAt ms ((((mAt ms ((r.th - 1).toNat)).t.to) - 1).toNat)).qa, (mAt ms ((((mAt ms ((r.th - 1).toNat)).t.to) - 1).toNat)).qc⟩ : MTh)) := RowsO.set (RowsO.own hRO885 hg884 k881 (by decide) (by decide)) (show (((mAt ms ((r.th - 1).toNat)).t.to) - 1).toNat < ms.length by omega) ⟨rfl, rfl, rfl⟩ ⟨rfl, rfl, rfl⟩
         refine wpo_nil ?_
         refine blk_n ?_
         refine thn_n ?_
         refine wpf_seq_region ?_
         refine wpo_move (v := .slice (some ⟨B, 0, none⟩) ms.length cap) rfl rfl ?_
         refine wpo_fieldAddr (o' := 0) fo_29_0 rfl rfl rfl ?_
         have k888 := ((((k124.grown0 hN123.grw).grown hS127.grw (some_ne (by omega))).grown hS878.grw (some_ne (by omega))).grown hg884 (some_ne (by omega)))
         refine wpo_load1 (v := .int .i64 r.th) ot_3 rfl (k888.cell rfl) rfl ?_
         refine wpo_sub (c := r.th - 1) rfl rfl (by omega) (by omega) (by omega) rfl ?_
         have k889 := (hS878.blk.grown hg884 (some_ne (by omega)))
         refine wpo_loadn (vs := [.int .i64 ((mAt ms ((r.th - 1).toNat)).t.kind), .int .i64 ((mAt ms ((r.th - 1).toNat)).t.lab.s), .int .i64 ((mAt ms ((r.th - 1).toNat)).t.lab.v), .int .i64 ((mAt ms ((r.th - 1).toNat)).t.ve), .int .i64 (min ((mAt ms ((r.th - 1).toNat)).t.num + 1) 99), .slice ((mAt ms ((r.th - 1).toNat)).sa) ((mAt ms ((r.th - 1).toNat)).t.slots.length) ((mAt ms ((r.th - 1).toNat)).sc), .slice ((mAt ms ((r.th - 1).toNat)).qa) ((mAt ms ((r.th - 1).toNat)).t.queue.length) ((mAt ms ((r.th - 1).toNat)).qc), .int .i64 ((mAt ms ((r.th - 1).toNat)).t.to)]) rt_45 rfl rfl (k889.rangeL 0 8 rfl) rfl ?_
         refine wpo_indexAddr (o' := (r.th - 1).toNat * 8) es_54 rfl rfl (by omega) (by omega) (by omega) rfl ?_
         refine wpo_storenO (g := MTh.cells) (z' := (⟨⟨(mAt ms ((r.th - 1).toNat)).t.kind, ((mAt ms ((r.th - 1).toNat)).t.lab), (mAt ms ((r.th - 1).toNat)).t.ve, min ((mAt ms ((r.th - 1).toNat)).t.num + 1) 99, (mAt ms ((r.th - 1).toNat)).t.slots, (mAt ms ((r.th - 1).toNat)).t.queue, (mAt ms ((r.th - 1).toNat)).t.to⟩, (mAt ms ((r.th - 1).toNat)).sa, (mAt ms ((r.th - 1).toNat)).sc, (mAt ms ((r.th - 1).toNat)).qa, (mAt ms ((r.th - 1).toNat)).qc⟩ : MTh)) rt_45 rfl rfl (onec_mth _) wide_mth hO883 (by (simp only [List.length_set, putT_len]; omega)) rfl ?_
         intro w890 hO891 hg892
         have hb893 := KeepsI.own hb886 hg892 hO883 (by decide) (by omega) (by omega)
         have hRO894 : RowsO 29 3 lo w890 ((ms.set (((mAt ms ((r.th - 1).toNat)).t.to) - 1).toNat (⟨⟨(mAt ms ((((mAt ms ((r.th - 1).toNat)).t.to) - 1).toNat)).t.kind, ((mAt ms ((((mAt ms ((r.th - 1).toNat)).t.to) - 1).toNat)).t.lab), (mAt ms ((((mAt ms ((r.th - 1).toNat)).t.to) - 1).toNat)).t.ve, q.n % 2, (mAt ms ((((mAt ms ((r.th - 1).toNat)).t.to) - 1).toNat)).t.slots, (mAt ms ((((mAt ms ((r.th - 1).toNat)).t.to) - 1).toNat)).t.queue, (mAt ms ((((mAt ms ((r.th - 1).toNat)).t.to) - 1).toNat)).t.to⟩, (mAt ms ((((mAt ms ((r.th - 1).toNat)).t.to) - 1).toNat)).sa, (mAt ms ((((mAt ms ((r.th - 1).toNat)).t.to) - 1).toNat)).sc, (mAt ms ((((mAt ms ((r.th - 1).toNat)).t.to) - 1).toNat)).qa, (mAt ms ((((mAt ms ((r.th - 1).toNat)).t.to) - 1).toNat)).qc⟩ : MTh)).set (r.th - 1).toNat (⟨⟨(mAt ms ((r.th - 1).toNat)).t.kind, ((mAt ms ((r.th - 1).toNat)).t.lab), (mAt ms ((r.th - 1).toNat)).t.ve, min ((mAt ms ((r.th - 1).toNat)).t.num + 1) 99, (mAt ms ((r.th - 1).toNat)).t.slots, (mAt ms ((r.th - 1).toNat)).t.queue, (mAt ms ((r.th - 1).toNat)).t.to⟩, (mAt ms ((r.th - 1).toNat)).sa, (mAt ms ((r.th - 1).toNat)).sc, (mAt ms ((r.th - 1).toNat)).qa, (mAt ms ((r.th - 1).toNat)).qc⟩ : MTh)) := RowsO.set (RowsO.own hRO887 hg892 hO883 (by decide) (by decide)) (show (r.th - 1).toNat < (ms.set (((mAt ms ((r.th - 1).toNat)).t.to) - 1).toNat (⟨⟨(mAt ms ((((mAt ms ((r.th - 1).toNat)).t.to) - 1).toNat)).t.kind, ((mAt ms ((((mAt ms ((r.th - 1).toNat)).t.to) - 1).toNat)).t.lab), (mAt ms ((((mAt ms ((r.th - 1).toNat)).t.to) - 1).toNat)).t.ve, q.n % 2, (mAt ms ((((mAt ms ((r.th - 1).toNat)).t.to) - 1).toNat)).t.slots, (mAt ms ((((mAt ms ((r.th - 1).toNat)).t.to) - 1).toNat)).t.queue, (mAt ms ((((mAt ms ((r.th - 1).toNat)).t.to) - 1).toNat)).t.to⟩, (mAt ms ((((mAt ms ((r.th - 1).toNat)).t.to) - 1).toNat)).sa, (mAt ms ((((mAt ms ((r.th - 1).toNat)).t.to) - 1).toNat)).sc, (mAt ms ((((mAt ms ((r.th - 1).toNat)).t.to) - 1).toNat)).qa, (mAt ms ((((mAt ms ((r.th - 1).toNat)).t.to) - 1).toNat)).qc⟩ : MTh)).length by (simp only [List.length_set, putT_len]; omega)) ⟨(mAt_same (i := (r.th - 1).toNat) (m2 := (⟨⟨(mAt ms ((((mAt ms ((r.th - 1).toNat)).t.to) - 1).toNat)).t.kind, ((mAt ms ((((mAt ms ((r.th - 1).toNat)).t.to) - 1).toNat)).t.lab), (mAt ms ((((mAt ms ((r.th - 1).toNat)).t.to) - 1).toNat)).t.ve, q.n % 2, (mAt ms ((((mAt ms ((r.th - 1).toNat)).t.to) - 1).toNat)).t.slots, (mAt ms ((((mAt ms ((r.th - 1).toNat)).t.to) - 1).toNat)).t.queue, (mAt ms ((((mAt ms ((r.th - 1).toNat)).t.to) - 1).toNat)).t.to⟩, (mAt ms ((((mAt ms ((r.th - 1).toNat)).t.to) - 1).toNat)).sa, (mAt ms ((((mAt ms ((r.th - 1).toNat)).t.to) - 1).toNat)).sc, (mAt ms ((((mAt ms ((r.th - 1).toNat)).t.to) - 1).toNat)).qa, (mAt ms ((((mAt ms ((r.th - 1).toNat)).t.to) - 1).toNat)).qc⟩ : MTh)) MTh.qa (show (((mAt ms ((r.th - 1).toNat)).t.to) - 1).toNat < ms.length by omega) rfl).symm, (mAt_same (i := (r.th - 1).toNat) (m2 := (⟨⟨(mAt ms ((((mAt ms ((r.th - 1).toNat)).t.to) - 1).toNat)).t.kind, ((mAt ms ((((mAt ms ((r.th - 1).toNat)).t.to) - 1).toNat)).t.lab), (mAt ms ((((mAt ms ((r.th - 1).toNat)).t.to) - 1).toNat)).t.ve, q.n % 2, (mAt ms ((((mAt ms ((r.th - 1).toNat)).t.to) - 1).toNat)).t.slots, (mAt ms ((((mAt ms ((r.th - 1).toNat)).t.to) - 1).toNat)).t.queue, (mAt ms ((((mAt ms ((r.th - 1).toNat)).t.to) - 1).toNat)).t.to⟩, (mAt ms ((((mAt ms ((r.th - 1).toNat)).t.to) - 1).toNat)).sa, (mAt ms ((((mAt ms ((r.th - 1).toNat)).t.to) - 1).toNat)).sc, (mAt ms ((((mAt ms ((r.th - 1).toNat)).t.to) - 1).toNat)).qa, (mAt ms ((((mAt ms ((r.th - 1).toNat)).t.to) - 1).toNat)).qc⟩ : MTh)) MTh.qc (show (((mAt ms ((r.th - 1).toNat)).t.to) - 1).toNat < ms.length by omega) rfl).symm, (mAt_same (i := (r.th - 1).toNat) (m2 := (⟨⟨(mAt ms ((((mAt ms ((r.th - 1).toNat)).t.to) - 1).toNat)).t.kind, ((mAt ms ((((mAt ms ((r.th - 1).toNat)).t.to) - 1).toNat)).t.lab), (mAt ms ((((mAt ms ((r.th - 1).toNat)).t.to) - 1).toNat)).t.ve, q.n % 2, (mAt ms ((((mAt ms ((r.th - 1).toNat)).t.to) - 1).toNat)).t.slots, (mAt ms ((((mAt ms ((r.th - 1).toNat)).t.to) - 1).toNat)).t.queue, (mAt ms ((((mAt ms ((r.th - 1).toNat)).t.to) - 1).toNat)).t.to⟩, (mAt ms ((((mAt ms ((r.th - 1).toNat)).t.to) - 1).toNat)).sa, (mAt ms ((((mAt ms ((r.th - 1).toNat)).t.to) - 1).toNat)).sc, (mAt ms ((((mAt ms ((r.th - 1).toNat)).t.to) - 1).toNat)).qa, (mAt ms ((((mAt ms ((r.th - 1).toNat)).t.to) - 1).toNat)).qc⟩ : MTh)) (fun m => m.t.queue) (show (((mAt ms ((r.th - 1).toNat)).t.to) - 1).toNat < ms.length by omega) rfl).symm⟩ ⟨(mAt_same (i := (r.th - 1).toNat) (m2 := (⟨⟨(mAt ms ((((mAt ms ((r.th - 1).toNat)).t.to) - 1).toNat)).t.kind, ((mAt ms ((((mAt ms ((r.th - 1).toNat)).t.to) - 1).toNat)).t.lab), (mAt ms ((((mAt ms ((r.th - 1).toNat)).t.to) - 1).toNat)).t.ve, q.n % 2, (mAt ms ((((mAt ms ((r.th - 1).toNat)).t.to) - 1).toNat)).t.slots, (mAt ms ((((mAt ms ((r.th - 1).toNat)).t.to) - 1).toNat)).t.queue, (mAt ms ((((mAt ms ((r.th - 1).toNat)).t.to) - 1).toNat)).t.to⟩, (mAt ms ((((mAt ms ((r.th - 1).toNat)).t.to) - 1).toNat)).sa, (mAt ms ((((mAt ms ((r.th - 1).toNat)).t.to) - 1).toNat)).sc, (mAt ms ((((mAt ms ((r.th - 1).toNat)).t.to) - 1).toNat)).qa, (mAt ms ((((mAt ms ((r.th - 1).toNat)).t.to) - 1).toNat)).qc⟩ : MTh)) MTh.sa (show (((mAt ms ((r.th - 1).toNat)).t.to) - 1).toNat < ms.length by omega) rfl).symm, (mAt_same (i := (r.th - 1).toNat) (m2 := (⟨⟨(mAt ms ((((mAt ms ((r.th - 1).toNat)).t.to) - 1).toNat)).t.kind, ((mAt ms ((((mAt ms ((r.th - 1).toNat)).t.to) - 1).toNat)).t.lab), (mAt ms ((((mAt ms ((r.th - 1).toNat)).t.to) - 1).toNat)).t.ve, q.n % 2, (mAt ms ((((mAt ms ((r.th - 1).toNat)).t.to) - 1).toNat)).t.slots, (mAt ms ((((mAt ms ((r.th - 1).toNat)).t.to) - 1).toNat)).t.queue, (mAt ms ((((mAt ms ((r.th - 1).toNat)).t.to) - 1).toNat)).t.to⟩, (mAt ms ((((mAt ms ((r.th - 1).toNat)).t.to) - 1).toNat)).sa, (mAt ms ((((mAt ms ((r.th - 1).toNat)).t.to) - 1).toNat)).sc, (mAt ms ((((mAt ms ((r.th - 1).toNat)).t.to) - 1).toNat)).qa, (mAt ms ((((mAt ms ((r.th - 1).toNat)).t.to) - 1).toNat)).qc⟩ : MTh)) MTh.sc (show (((mAt ms ((r.th - 1).toNat)).t.to) - 1).toNat < ms.length by omega) rfl).symm, (mAt_same (i := (r.th - 1).toNat) (m2 := (⟨⟨(mAt ms ((((mAt ms ((r.th - 1).toNat)).t.to) - 1).toNat)).t.kind, ((mAt ms ((((mAt ms ((r.th - 1).toNat)).t.to) - 1).toNat)).t.lab), (mAt ms ((((mAt ms ((r.th - 1).toNat)).t.to) - 1).toNat)).t.ve, q.n % 2, (mAt ms ((((mAt ms ((r.th - 1).toNat)).t.to) - 1).toNat)).t.slots, (mAt ms ((((mAt ms ((r.th - 1).toNat)).t.to) - 1).toNat)).t.queue, (mAt ms ((((mAt ms ((r.th - 1).toNat)).t.to) - 1).toNat)).t.to⟩, (mAt ms ((((mAt ms ((r.th - 1).toNat)).t.to) - 1).toNat)).sa, (mAt ms ((((mAt ms ((r.th - 1).toNat)).t.to) - 1).toNat)).sc, (mAt ms ((((mAt ms ((r.th - 1).toNat)).t.to) - 1).toNat)).qa, (mAt ms ((((mAt ms ((r.th - 1).toNat)).t.to) - 1).toNat)).qc⟩ : MTh)) (fun m => m.t.slots) (show (((mAt ms ((r.th - 1).toNat)).t.to) - 1).toNat < ms.length by omega) rfl).symm⟩
         refine wpo_nil ?_
         refine wpf_seq_region ?_
         refine wpo_move (v := .int .i64 0) rfl rfl ?_
         refine wpo_assign (v := .int .i64 0) rfl rfl ?_
         refine wpo_nil ?_
         refine wpf_ret ?_
         have hf : far (tabT ms) q r = (tabT ((ms.set (((mAt ms ((r.th - 1).toNat)).t.to) - 1).toNat (⟨⟨(mAt ms ((((mAt ms ((r.th - 1).toNat)).t.to) - 1).toNat)).t.kind, ((mAt ms ((((mAt ms ((r.th - 1).toNat)).t.to) - 1).toNat)).t.lab), (mAt ms ((((mAt ms ((r.th - 1).toNat)).t.to) - 1).toNat)).t.ve, q.n % 2, (mAt ms ((((mAt ms ((r.th - 1).toNat)).t.to) - 1).toNat)).t.slots, (mAt ms ((((mAt ms ((r.th - 1).toNat)).t.to) - 1).toNat)).t.queue, (mAt ms ((((mAt ms ((r.th - 1).toNat)).t.to) - 1).toNat)).t.to⟩, (mAt ms ((((mAt ms ((r.th - 1).toNat)).t.to) - 1).toNat)).sa, (mAt ms ((((mAt ms ((r.th - 1).toNat)).t.to) - 1).toNat)).sc, (mAt ms ((((mAt ms ((r.th - 1).toNat)).t.to) - 1).toNat)).qa, (mAt ms ((((mAt ms ((r.th - 1).toNat)).t.to) - 1).toNat)).qc⟩ : MTh)).set (r.th - 1).toNat (⟨⟨(mAt ms ((r.th - 1).toNat)).t.kind, ((mAt ms ((r.th - 1).toNat)).t.lab), (mAt ms ((r.th - 1).toNat)).t.ve, min ((mAt ms ((r.th - 1).toNat)).t.num + 1) 99, (mAt ms ((r.th - 1).toNat)).t.slots, (mAt ms ((r.th - 1).toNat)).t.queue, (mAt ms ((r.th - 1).toNat)).t.to⟩, (mAt ms ((r.th - 1).toNat)).sa, (mAt ms ((r.th - 1).toNat)).sc, (mAt ms ((r.th - 1).toNat)).qa, (mAt ms ((r.th - 1).toNat)).qc⟩ : MTh)), 0) := far_9 h873 rfl rfl
         exact ⟨.int .i64 0, res1 rfl rfl, (ms.set (((mAt ms ((r.th - 1).toNat)).t.to) - 1).toNat (⟨⟨(mAt ms ((((mAt ms ((r.th - 1).toNat)).t.to) - 1).toNat)).t.kind, ((mAt ms ((((mAt ms ((r.th - 1).toNat)).t.to) - 1).toNat)).t.lab), (mAt ms ((((mAt ms ((r.th - 1).toNat)).t.to) - 1).toNat)).t.ve, q.n % 2, (mAt ms ((((mAt ms ((r.th - 1).toNat)).t.to) - 1).toNat)).t.slots, (mAt ms ((((mAt ms ((r.th - 1).toNat)).t.to) - 1).toNat)).t.queue, (mAt ms ((((mAt ms ((r.th - 1).toNat)).t.to) - 1).toNat)).t.to⟩, (mAt ms ((((mAt ms ((r.th - 1).toNat)).t.to) - 1).toNat)).sa, (mAt ms ((((mAt ms ((r.th - 1).toNat)).t.to) - 1).toNat)).sc, (mAt ms ((((mAt ms ((r.th - 1).toNat)).t.to) - 1).toNat)).qa, (mAt ms ((((mAt ms ((r.th - 1).toNat)).t.to) - 1).toNat)).qc⟩ : MTh)).set (r.th - 1).toNat (⟨⟨(mAt ms ((r.th - 1).toNat)).t.kind, ((mAt ms ((r.th - 1).toNat)).t.lab), (mAt ms ((r.th - 1).toNat)).t.ve, min ((mAt ms ((r.th - 1).toNat)).t.num + 1) 99, (mAt ms ((r.th - 1).toNat)).t.slots, (mAt ms ((r.th - 1).toNat)).t.queue, (mAt ms ((r.th - 1).toNat)).t.to⟩, (mAt ms ((r.th - 1).toNat)).sa, (mAt ms ((r.th - 1).toNat)).sc, (mAt ms ((r.th - 1).toNat)).qa, (mAt ms ((r.th - 1).toNat)).qc⟩ : MTh), by rw [hf], by first | rfl | exact putT_len | (simp only [List.length_set, putT_len]), hO891, hRO894, by rw [hf], hb893⟩
        ·
         have h895 := of_decide_eq_false h873
         refine wpf_skip ?_
         refine blk_n ?_
         refine thn_n ?_
         refine wpf_seq_region ?_
         refine wpo_move (v := .slice (some ⟨B, 0, none⟩) ms.length cap) rfl rfl ?_
         refine wpo_fieldAddr (o' := 0) fo_29_0 rfl rfl rfl ?_
         have k896 := ((k124.grown0 hN123.grw).grown hS127.grw (some_ne (by omega)))
         refine wpo_load1 (v := .int .i64 r.th) ot_3 rfl (k896.cell rfl) rfl ?_
         refine wpo_sub (c := r.th - 1) rfl rfl (by omega) (by omega) (by omega) rfl ?_
         have k897 := ((hS117.blk.grown0 hN123.grw).grown hS127.grw (some_ne (by omega)))
         refine wpo_loadn (vs := [.int .i64 ((mAt ms ((r.th - 1).toNat)).t.kind), .int .i64 ((mAt ms ((r.th - 1).toNat)).t.lab.s), .int .i64 ((mAt ms ((r.th - 1).toNat)).t.lab.v), .int .i64 ((mAt ms ((r.th - 1).toNat)).t.ve), .int .i64 ((mAt ms ((r.th - 1).toNat)).t.num), .slice ((mAt ms ((r.th - 1).toNat)).sa) ((mAt ms ((r.th - 1).toNat)).t.slots.length) ((mAt ms ((r.th - 1).toNat)).sc), .slice ((mAt ms ((r.th - 1).toNat)).qa) ((mAt ms ((r.th - 1).toNat)).t.queue.length) ((mAt ms ((r.th - 1).toNat)).qc), .int .i64 ((mAt ms ((r.th - 1).toNat)).t.to)]) rt_45 rfl rfl (k897.rangeL 0 8 rfl) rfl ?_
         refine wpo_indexAddr (o' := (r.th - 1).toNat * 8) es_54 rfl rfl (by omega) (by omega) (by omega) rfl ?_
         have k898 := ((k120.grown0 hN123.grw).grown hS127.grw (some_ne (by omega)))
         have hRO902 := (RowsO.typB (RowsO.low (RowsO.typB (RowsO.low (RowsO.low (RowsO.low hR hN103.grw) hN107.grw) hN113.grw) hS117.grw hN113.blk (by decide) (by decide)) hN123.grw) hS127.grw hN123.blk (by decide) (by decide))
         refine wpo_storenO (g := MTh.cells) (z' := (mAt ms ((r.th - 1).toNat))) rt_45 rfl rfl (onec_mth _) wide_mth k898 (by omega) rfl ?_
         intro w899 hO900 hg901
         have hb903 := KeepsI.own hb128 hg901 k898 (by decide) (by omega) (by omega)
         have hRO904 : RowsO 29 3 lo w899 (ms.set (r.th - 1).toNat (mAt ms ((r.th - 1).toNat))) := RowsO.set (RowsO.own hRO902 hg901 k898 (by decide) (by decide)) (show (r.th - 1).toNat < ms.length by omega) ⟨rfl, rfl, rfl⟩ ⟨rfl, rfl, rfl⟩
         refine wpo_nil ?_
         refine wpf_seq_region ?_
         refine wpo_move (v := .int .i64 0) rfl rfl ?_
         refine wpo_assign (v := .int .i64 0) rfl rfl ?_
         refine wpo_nil ?_
         refine wpf_ret ?_
         exfalso; omega
theorem gf_119 : goFn Try.prog 119 = true := by kernel_rfl
theorem gf_121 : goFn Try.prog 121 = true := by kernel_rfl
end Go.Proofs.Ytlkmdoebmklbbaa
