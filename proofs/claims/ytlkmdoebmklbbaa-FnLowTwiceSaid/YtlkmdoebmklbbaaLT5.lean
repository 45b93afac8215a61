/- Walks, printed by a program of mine (gen.py) out of the functions. -/
import Derived.Test.YtlkmdoebmklbbaaLT4
namespace Go.Proofs.Ytlkmdoebmklbbaa
open Go.RowKit Go.Dw
set_option maxRecDepth 100000
set_option maxHeartbeats 4000000
set_option linter.unusedSimpArgs false
set_option linter.unusedVariables false
theorem l12Do_c (q : Cl) (lo B cap : Nat) (ms : List MTh) (w : World) (hB : Dw.Own w B 45 8 cap ms.length (ms.flatMap MTh.cells)) (hR : RowsO 29 3 lo w ms) (hlo : lo ≤ B) (hp : callPoss (tabT ms) q = true) : CallsR Try.prog 113 #[.slice (some ⟨B, 0, none⟩) ms.length cap, .agg #[.int .i64 q.kind, .int .i64 q.run, .int .i64 q.a, .int .i64 q.b, .int .i64 q.n]] w (fun v w' => ∃ ms' : List MTh, v = .tuple #[.slice (some ⟨B, 0, none⟩) ms.length cap, .int .i64 ((doCall (tabT ms) q).2)] ∧ ms'.length = ms.length ∧ Dw.Own w' B 45 8 cap ms'.length (ms'.flatMap MTh.cells) ∧ RowsO 29 3 lo w' ms' ∧ tabT ms' = (doCall (tabT ms) q).1 ∧ KeepsI lo w.heap.size [45, 29, 3] w w') := by
 refine calls_of_wpf (n := 79) Try.func113 rfl Try.ntmps113 rfl ?_
 have hb0 : KeepsI lo w.heap.size [45, 29, 3] w w := KeepsI.refl w
 have hBlt := hB.lt
 have hH := RowsO.hi hR
 have hlow : lo ≤ w.heap.size := by omega
 obtain ⟨hT, hc, hk⟩ := callPoss_parts hp
 have hco := callOk_iff hc
 have hkp := (kindAt_parts hk).1
 have h4 := run_slots hT hk
 have hml := tab_len hT
 have hTL := TabLen.ok hT
 have hck := check_rng (tabT ms) q
 have hts := tab_slot hT (i := (q.run - 1).toNat) (j := q.a.toNat) (by omega) (by omega)
 refine wpf_seq_region ?_
 refine wpo_box (v := .agg #[.int .i64 q.kind, .int .i64 q.run, .int .i64 q.a, .int .i64 q.b, .int .i64 q.n]) (cs := #[.int .i64 q.kind, .int .i64 q.run, .int .i64 q.a, .int .i64 q.b, .int .i64 q.n]) rfl rfl rfl ?_
 intro B101 w102 hN103
 have hlB101 := hN_geI hN103 hb0
 have lt_B_B101 := hN_gtl hN103 (hB).lt
 have hb104 := KeepsI.low hb0 hN103.grw
 refine wpo_assign (v := .slice none 0 0) rfl rfl ?_
 refine wpo_assign (v := .int .i64 0) rfl rfl ?_
 refine wpo_nil ?_
 refine wpf_seq_region ?_
 refine wpo_move (v := .slice (some ⟨B, 0, none⟩) ms.length cap) rfl rfl ?_
 refine wpo_loadn (vs := [.int .i64 q.kind, .int .i64 q.run, .int .i64 q.a, .int .i64 q.b, .int .i64 q.n]) rt_76 rfl rfl (hN103.blk.rangeL 0 5 rfl) rfl ?_
 have hRO105 := (RowsO.low hR hN103.grw)
 have k106 := (hB.grown0 hN103.grw)
 refine wpo_call (vs := [.slice (some ⟨B, 0, none⟩) ms.length cap, .agg #[.int .i64 q.kind, .int .i64 q.run, .int .i64 q.a, .int .i64 q.b, .int .i64 q.n]]) gf_119 (args_cons rfl (args_cons rfl args_nil)) rfl (l11Check_c q _ ms _ _ (RowsO.tab hRO105 k106) hTL (by omega) hT hc hk) ?_
 rintro _ w107 ⟨rfl, hg108⟩
 have hb109 := KeepsI.low hb104 hg108
 refine wpo_assign (v := .int .i64 (check1 (tabT ms) q)) rfl rfl ?_
 refine wpo_nil ?_
 refine wpf_seq ?_
 have hRO144 := (RowsO.low hRO105 hg108)
 obtain ⟨S145, hSa146, hSl147, hSO148⟩ := RowsO.slot hRO144 (show (q.run - 1).toNat < ms.length by omega) (by omega)
 have hSh149 := hH _ (List.mem_of_getElem? (mAt_get (show (q.run - 1).toNat < ms.length by omega))) _ (Or.inl hSa146)
 have k151 := (k106.grown0 hg108)
 have hSn150 := own_ne k151 hSO148 (by decide)
 refine wpf_drawI (m := 12) [[], [], [1], [1, 2], [0, 1, 2, 3], [0, 1, 2, 3, 4], [0, 1, 2, 3, 4, 5], [], [7], [0, 1, 2, 3, 4, 5, 6, 7, 8], [0, 1, 2, 3, 4, 5, 6, 7, 8, 9], [], [0, 1, 2, 3, 4, 5, 6, 7, 8, 9, 10, 11]] (fun S F w' => ∃ (B158 : Nat), w107.grownBy w' none ∧ F 0 = .slice (some ⟨B, 0, none⟩) ms.length cap ∧ F 3 = .pointer (some ⟨B101, 0, none⟩) ∧ F 4 = .slice none 0 0 ∧ F 5 = .int .i64 0 ∧ F 6 = .int .i64 (check1 (tabT ms) q) ∧ (S 0 = true → F 11 = .slice (some ⟨B, 0, none⟩) ms.length cap) ∧ (S 1 = true → F 12 = .pointer (some ⟨B101, 1, none⟩)) ∧ (S 2 = true → F 13 = .int .i64 q.run) ∧ (S 3 = true → F 14 = .int .i64 (q.run - 1)) ∧ (S 4 = true → F 15 = .pointer (some ⟨B, (q.run - 1).toNat * 8, none⟩)) ∧ (S 5 = true → F 16 = .pointer (some ⟨B, (q.run - 1).toNat * 8 + 5, none⟩)) ∧ (S 6 = true → F 17 = .slice ((mAt ms ((q.run - 1).toNat)).sa) ((mAt ms ((q.run - 1).toNat)).t.slots.length) ((mAt ms ((q.run - 1).toNat)).sc)) ∧ (S 7 = true → F 18 = .pointer (some ⟨B101, 2, none⟩)) ∧ (S 8 = true → F 19 = .int .i64 q.a) ∧ (S 9 = true → F 20 = .pointer (some ⟨S145, (q.a).toNat * 5, none⟩)) ∧ (S 10 = true → F 21 = .agg #[.int .i64 ((rAt ((mAt ms ((q.run - 1).toNat)).t.slots) ((q.a).toNat)).th), .int .i64 ((rAt ((mAt ms ((q.run - 1).toNat)).t.slots) ((q.a).toNat)).ve), .bool ((rAt ((mAt ms ((q.run - 1).toNat)).t.slots) ((q.a).toNat)).rd), .bool ((rAt ((mAt ms ((q.run - 1).toNat)).t.slots) ((q.a).toNat)).wr), .bool ((rAt ((mAt ms ((q.run - 1).toNat)).t.slots) ((q.a).toNat)).wk)]) ∧ (S 11 = true → F 7 = .pointer (some ⟨B158, 0, none⟩) ∧ w.heap.size ≤ B158 ∧ Blk w' B158 29 #[.int .i64 0, .int .i64 0, .bool false, .bool false, .bool false] ∧ B < B158 ∧ B101 < B158 ∧ S145 < B158 ∧ w107.heap.size ≤ B158)) mixed_ (by kernel_rfl) ⟨0, grown_drew _, rfl, rfl, rfl, rfl, rfl, fun h => not_begun h, fun h => not_begun h, fun h => not_begun h, fun h => not_begun h, fun h => not_begun h, fun h => not_begun h, fun h => not_begun h, fun h => not_begun h, fun h => not_begun h, fun h => not_begun h, fun h => not_begun h, fun h => not_begun h⟩ ?_ ?_
 ·
  refine preL_cons (fun S F w162 hS hbef hcl hI => ?_) ?_
  ·
   obtain ⟨B158, hi163, e164, e165, e166, e167, e168, c_0, c_1, c_2, c_3, c_4, c_5, c_6, c_7, c_8, c_9, c_10, c_11⟩ := hI
   have hb169 := KeepsI.low hb109 hi163
   refine wpo_move (v := .slice (some ⟨B, 0, none⟩) ms.length cap) e164 rfl ?_
   exact wpo_nil ⟨B158, hi163, e164, e165, e166, e167, e168, fun _ => rfl, c_1, c_2, c_3, fun h => undone 4 hS hcl rfl h, fun h => undone 5 hS hcl rfl h, fun h => undone 6 hS hcl rfl h, c_7, c_8, fun h => undone 9 hS hcl rfl h, fun h => undone 10 hS hcl rfl h, c_11⟩
  refine preL_cons (fun S F w170 hS hbef hcl hI => ?_) ?_
  ·
   obtain ⟨B158, hi171, e172, e173, e174, e175, e176, c_0, c_1, c_2, c_3, c_4, c_5, c_6, c_7, c_8, c_9, c_10, c_11⟩ := hI
   have hb177 := KeepsI.low hb109 hi171
   refine wpo_fieldAddr (o' := 1) fo_76_1 e173 rfl rfl ?_
   exact wpo_nil ⟨B158, hi171, e172, e173, e174, e175, e176, c_0, fun _ => rfl, fun h => undone 2 hS hcl rfl h, fun h => undone 3 hS hcl rfl h, fun h => undone 4 hS hcl rfl h, fun h => undone 5 hS hcl rfl h, fun h => undone 6 hS hcl rfl h, c_7, c_8, fun h => undone 9 hS hcl rfl h, fun h => undone 10 hS hcl rfl h, c_11⟩
  refine preL_cons (fun S F w178 hS hbef hcl hI => ?_) ?_
  ·
   obtain ⟨B158, hi179, e180, e181, e182, e183, e184, c_0, c_1, c_2, c_3, c_4, c_5, c_6, c_7, c_8, c_9, c_10, c_11⟩ := hI
   have hb185 := KeepsI.low hb109 hi179
   obtain e186 := c_1 (ready_of 1 hbef rfl)
   have k187 := ((hN103.blk.grown0 hg108).grown0 hi179)
   refine wpo_load1 (v := .int .i64 q.run) ot_3 e186 (k187.cell rfl) rfl ?_
   exact wpo_nil ⟨B158, hi179, e180, e181, e182, e183, e184, c_0, c_1, fun _ => rfl, fun h => undone 3 hS hcl rfl h, fun h => undone 4 hS hcl rfl h, fun h => undone 5 hS hcl rfl h, fun h => undone 6 hS hcl rfl h, c_7, c_8, fun h => undone 9 hS hcl rfl h, fun h => undone 10 hS hcl rfl h, c_11⟩
  refine preL_cons (fun S F w188 hS hbef hcl hI => ?_) ?_
  ·
   obtain ⟨B158, hi189, e190, e191, e192, e193, e194, c_0, c_1, c_2, c_3, c_4, c_5, c_6, c_7, c_8, c_9, c_10, c_11⟩ := hI
   have hb195 := KeepsI.low hb109 hi189
   obtain e196 := c_1 (ready_of 1 hbef rfl)
   obtain e197 := c_2 (ready_of 2 hbef rfl)
   refine wpo_sub (c := q.run - 1) e197 rfl (by omega) (by omega) (by omega) rfl ?_
   exact wpo_nil ⟨B158, hi189, e190, e191, e192, e193, e194, c_0, c_1, c_2, fun _ => rfl, fun h => undone 4 hS hcl rfl h, fun h => undone 5 hS hcl rfl h, fun h => undone 6 hS hcl rfl h, c_7, c_8, fun h => undone 9 hS hcl rfl h, fun h => undone 10 hS hcl rfl h, c_11⟩
  refine preL_cons (fun S F w198 hS hbef hcl hI => ?_) ?_
  ·
   obtain ⟨B158, hi199, e200, e201, e202, e203, e204, c_0, c_1, c_2, c_3, c_4, c_5, c_6, c_7, c_8, c_9, c_10, c_11⟩ := hI
   have hb205 := KeepsI.low hb109 hi199
   obtain e206 := c_0 (ready_of 0 hbef rfl)
   obtain e207 := c_1 (ready_of 1 hbef rfl)
   obtain e208 := c_2 (ready_of 2 hbef rfl)
   obtain e209 := c_3 (ready_of 3 hbef rfl)
   refine wpo_indexAddr (o' := (q.run - 1).toNat * 8) es_54 e206 e209 (by omega) (by omega) (by omega) rfl ?_
   exact wpo_nil ⟨B158, hi199, e200, e201, e202, e203, e204, c_0, c_1, c_2, c_3, fun _ => rfl, fun h => undone 5 hS hcl rfl h, fun h => undone 6 hS hcl rfl h, c_7, c_8, fun h => undone 9 hS hcl rfl h, fun h => undone 10 hS hcl rfl h, c_11⟩
  refine preL_cons (fun S F w210 hS hbef hcl hI => ?_) ?_
  ·
   obtain ⟨B158, hi211, e212, e213, e214, e215, e216, c_0, c_1, c_2, c_3, c_4, c_5, c_6, c_7, c_8, c_9, c_10, c_11⟩ := hI
   have hb217 := KeepsI.low hb109 hi211
   obtain e218 := c_0 (ready_of 0 hbef rfl)
   obtain e219 := c_1 (ready_of 1 hbef rfl)
   obtain e220 := c_2 (ready_of 2 hbef rfl)
   obtain e221 := c_3 (ready_of 3 hbef rfl)
   obtain e222 := c_4 (ready_of 4 hbef rfl)
   refine wpo_fieldAddr (o' := (q.run - 1).toNat * 8 + 5) fo_45_4 e222 rfl rfl ?_
   exact wpo_nil ⟨B158, hi211, e212, e213, e214, e215, e216, c_0, c_1, c_2, c_3, c_4, fun _ => rfl, fun h => undone 6 hS hcl rfl h, c_7, c_8, fun h => undone 9 hS hcl rfl h, fun h => undone 10 hS hcl rfl h, c_11⟩
  refine preL_cons (fun S F w223 hS hbef hcl hI => ?_) ?_
  ·
   obtain ⟨B158, hi224, e225, e226, e227, e228, e229, c_0, c_1, c_2, c_3, c_4, c_5, c_6, c_7, c_8, c_9, c_10, c_11⟩ := hI
   have hb230 := KeepsI.low hb109 hi224
   obtain e231 := c_0 (ready_of 0 hbef rfl)
   obtain e232 := c_1 (ready_of 1 hbef rfl)
   obtain e233 := c_2 (ready_of 2 hbef rfl)
   obtain e234 := c_3 (ready_of 3 hbef rfl)
   obtain e235 := c_4 (ready_of 4 hbef rfl)
   obtain e236 := c_5 (ready_of 5 hbef rfl)
   have k237 := (k151.grown0 hi224)
   refine wpo_load1 (v := .slice ((mAt ms ((q.run - 1).toNat)).sa) ((mAt ms ((q.run - 1).toNat)).t.slots.length) ((mAt ms ((q.run - 1).toNat)).sc)) ot_27 e236 ((Own.range wide_mth k237 (mAt_get (show (q.run - 1).toNat < ms.length by omega))) 5 _ rfl) rfl ?_
   exact wpo_nil ⟨B158, hi224, e225, e226, e227, e228, e229, c_0, c_1, c_2, c_3, c_4, c_5, fun _ => rfl, c_7, c_8, fun h => undone 9 hS hcl rfl h, fun h => undone 10 hS hcl rfl h, c_11⟩
  refine preL_cons (fun S F w238 hS hbef hcl hI => ?_) ?_
  ·
   obtain ⟨B158, hi239, e240, e241, e242, e243, e244, c_0, c_1, c_2, c_3, c_4, c_5, c_6, c_7, c_8, c_9, c_10, c_11⟩ := hI
   have hb245 := KeepsI.low hb109 hi239
   refine wpo_fieldAddr (o' := 2) fo_76_2 e241 rfl rfl ?_
   exact wpo_nil ⟨B158, hi239, e240, e241, e242, e243, e244, c_0, c_1, c_2, c_3, c_4, c_5, c_6, fun _ => rfl, fun h => undone 8 hS hcl rfl h, fun h => undone 9 hS hcl rfl h, fun h => undone 10 hS hcl rfl h, c_11⟩
  refine preL_cons (fun S F w246 hS hbef hcl hI => ?_) ?_
  ·
   obtain ⟨B158, hi247, e248, e249, e250, e251, e252, c_0, c_1, c_2, c_3, c_4, c_5, c_6, c_7, c_8, c_9, c_10, c_11⟩ := hI
   have hb253 := KeepsI.low hb109 hi247
   obtain e254 := c_7 (ready_of 7 hbef rfl)
   have k255 := ((hN103.blk.grown0 hg108).grown0 hi247)
   refine wpo_load1 (v := .int .i64 q.a) ot_3 e254 (k255.cell rfl) rfl ?_
   exact wpo_nil ⟨B158, hi247, e248, e249, e250, e251, e252, c_0, c_1, c_2, c_3, c_4, c_5, c_6, c_7, fun _ => rfl, fun h => undone 9 hS hcl rfl h, fun h => undone 10 hS hcl rfl h, c_11⟩
  refine preL_cons (fun S F w256 hS hbef hcl hI => ?_) ?_
  ·
   obtain ⟨B158, hi257, e258, e259, e260, e261, e262, c_0, c_1, c_2, c_3, c_4, c_5, c_6, c_7, c_8, c_9, c_10, c_11⟩ := hI
   have hb263 := KeepsI.low hb109 hi257
   obtain e264 := c_0 (ready_of 0 hbef rfl)
   obtain e265 := c_1 (ready_of 1 hbef rfl)
   obtain e266 := c_2 (ready_of 2 hbef rfl)
   obtain e267 := c_3 (ready_of 3 hbef rfl)
   obtain e268 := c_4 (ready_of 4 hbef rfl)
   obtain e269 := c_5 (ready_of 5 hbef rfl)
   obtain e270 := c_6 (ready_of 6 hbef rfl)
   obtain e271 := c_7 (ready_of 7 hbef rfl)
   obtain e272 := c_8 (ready_of 8 hbef rfl)
   refine wpo_indexE es_27 e270 e272 hSa146 (Nat.zero_add _) (by omega) (by omega) rfl ?_
   exact wpo_nil ⟨B158, hi257, e258, e259, e260, e261, e262, c_0, c_1, c_2, c_3, c_4, c_5, c_6, c_7, c_8, fun _ => rfl, fun h => undone 10 hS hcl rfl h, c_11⟩
  refine preL_cons (fun S F w273 hS hbef hcl hI => ?_) ?_
  ·
   obtain ⟨B158, hi274, e275, e276, e277, e278, e279, c_0, c_1, c_2, c_3, c_4, c_5, c_6, c_7, c_8, c_9, c_10, c_11⟩ := hI
   have hb280 := KeepsI.low hb109 hi274
   obtain e281 := c_0 (ready_of 0 hbef rfl)
   obtain e282 := c_1 (ready_of 1 hbef rfl)
   obtain e283 := c_2 (ready_of 2 hbef rfl)
   obtain e284 := c_3 (ready_of 3 hbef rfl)
   obtain e285 := c_4 (ready_of 4 hbef rfl)
   obtain e286 := c_5 (ready_of 5 hbef rfl)
   obtain e287 := c_6 (ready_of 6 hbef rfl)
   obtain e288 := c_7 (ready_of 7 hbef rfl)
   obtain e289 := c_8 (ready_of 8 hbef rfl)
   obtain e290 := c_9 (ready_of 9 hbef rfl)
   have k291 := (hSO148.grown0 hi274)
   refine wpo_loadn (vs := [.int .i64 ((rAt ((mAt ms ((q.run - 1).toNat)).t.slots) ((q.a).toNat)).th), .int .i64 ((rAt ((mAt ms ((q.run - 1).toNat)).t.slots) ((q.a).toNat)).ve), .bool ((rAt ((mAt ms ((q.run - 1).toNat)).t.slots) ((q.a).toNat)).rd), .bool ((rAt ((mAt ms ((q.run - 1).toNat)).t.slots) ((q.a).toNat)).wr), .bool ((rAt ((mAt ms ((q.run - 1).toNat)).t.slots) ((q.a).toNat)).wk)]) rt_29 e290 rfl (range_sub (Own.range wide_rt k291 (rAt_get (show (q.a).toNat < ((mAt ms ((q.run - 1).toNat)).t.slots).length by omega))) 0 5 rfl) rfl ?_
   exact wpo_nil ⟨B158, hi274, e275, e276, e277, e278, e279, c_0, c_1, c_2, c_3, c_4, c_5, c_6, c_7, c_8, c_9, fun _ => rfl, c_11⟩
  refine preL_cons (fun S F w292 hS hbef hcl hI => ?_) ?_
  ·
   obtain ⟨B158, hi293, e294, e295, e296, e297, e298, c_0, c_1, c_2, c_3, c_4, c_5, c_6, c_7, c_8, c_9, c_10, c_11⟩ := hI
   have hb299 := KeepsI.low hb109 hi293
   refine wpo_alloc (cs := #[.int .i64 0, .int .i64 0, .bool false, .bool false, .bool false]) zt_29 rfl rfl ?_
   intro B300 w301 hN302
   have hlB300 := hN_geI hN302 hb299
   have k303 := (k151.grown0 hi293)
   have lt_B_B300 := hN_gtl hN302 (k303).lt
   have k304 := ((hN103.blk.grown0 hg108).grown0 hi293)
   have lt_B101_B300 := hN_gtl hN302 (k304).lt
   have k305 := (hSO148.grown0 hi293)
   have lt_S145_B300 := hN_gtl hN302 (k305).lt
   have hb306 := KeepsI.low hb299 hN302.grw
   exact wpo_nil ⟨B300, (low0 hi293 hN302.grw), e294, e295, e296, e297, e298, c_0, c_1, c_2, c_3, c_4, c_5, c_6, c_7, c_8, c_9, c_10, fun _ => ⟨rfl, hlB300, hN302.blk, lt_B_B300, lt_B101_B300, lt_S145_B300, (Nat.le_trans hi293.size (Nat.le_of_eq hN302.eq.symm))⟩⟩
  exact preL_nil
 ·
  intro S F w307 hall hI
  obtain ⟨B158, hi308, e309, e310, e311, e312, e313, c_0, c_1, c_2, c_3, c_4, c_5, c_6, c_7, c_8, c_9, c_10, c_11⟩ := hI
  have hb314 := KeepsI.low hb109 hi308
  obtain e315 := c_0 (hall 0 (by decide))
  obtain e316 := c_1 (hall 1 (by decide))
  obtain e317 := c_2 (hall 2 (by decide))
  obtain e318 := c_3 (hall 3 (by decide))
  obtain e319 := c_4 (hall 4 (by decide))
  obtain e320 := c_5 (hall 5 (by decide))
  obtain e321 := c_6 (hall 6 (by decide))
  obtain e322 := c_7 (hall 7 (by decide))
  obtain e323 := c_8 (hall 8 (by decide))
  obtain e324 := c_9 (hall 9 (by decide))
  obtain e325 := c_10 (hall 10 (by decide))
  obtain ⟨e326, hlB158, kb_B158, lt_B_B158, lt_B101_B158, lt_S145_B158, hk_B158⟩ := c_11 (hall 11 (by decide))
  refine wpo_storen (vs := [.int .i64 ((rAt ((mAt ms ((q.run - 1).toNat)).t.slots) ((q.a).toNat)).th), .int .i64 ((rAt ((mAt ms ((q.run - 1).toNat)).t.slots) ((q.a).toNat)).ve), .bool ((rAt ((mAt ms ((q.run - 1).toNat)).t.slots) ((q.a).toNat)).rd), .bool ((rAt ((mAt ms ((q.run - 1).toNat)).t.slots) ((q.a).toNat)).wr), .bool ((rAt ((mAt ms ((q.run - 1).toNat)).t.slots) ((q.a).toNat)).wk)]) (cs' := #[.int .i64 ((rAt ((mAt ms ((q.run - 1).toNat)).t.slots) ((q.a).toNat)).th), .int .i64 ((rAt ((mAt ms ((q.run - 1).toNat)).t.slots) ((q.a).toNat)).ve), .bool ((rAt ((mAt ms ((q.run - 1).toNat)).t.slots) ((q.a).toNat)).rd), .bool ((rAt ((mAt ms ((q.run - 1).toNat)).t.slots) ((q.a).toNat)).wr), .bool ((rAt ((mAt ms ((q.run - 1).toNat)).t.slots) ((q.a).toNat)).wk)]) rt_29 e326 e325 rfl (by simp [Value.oneCell']) kb_B158 (Nat.le_of_ble_eq_true rfl) rfl ?_
  intro w327 hS328
  have hb329 := KeepsI.new hb314 hS328.grw (by omega)
  refine wpo_nil ?_
  refine thn_n ?_
  refine wpf_seq ?_
  refine wpf_block ?_
  refine wpf_seq_region ?_
  refine wpo_move (v := .int .i64 (check1 (tabT ms) q)) e313 rfl ?_
  refine wpo_lss (q := decide (check1 (tabT ms) q < 0)) rfl rfl rfl rfl ?_
  refine wpo_assign (v := .bool (decide (check1 (tabT ms) q < 0))) rfl rfl ?_
  refine wpo_nil ?_
  refine wpf_cond rfl (fun h330 => ?_) (fun h330 => ?_)
  ·
   have h331 := of_decide_eq_true h330
   refine wpf_skip ?_
   refine blk_n ?_
   refine thn_n ?_
   refine wpf_seq_region ?_
   refine wpo_move (v := .slice (some ⟨B, 0, none⟩) ms.length cap) e309 rfl ?_
   refine wpo_fieldAddr (o' := 1) fo_76_1 e310 rfl rfl ?_
   have k332 := (((hN103.blk.grown0 hg108).grown0 hi308).grown hS328.grw (some_ne (by omega)))
   refine wpo_load1 (v := .int .i64 q.run) ot_3 rfl (k332.cell rfl) rfl ?_
   refine wpo_sub (c := q.run - 1) rfl rfl (by omega) (by omega) (by omega) rfl ?_
   refine wpo_move (v := .int .i64 (check1 (tabT ms) q)) e313 rfl ?_
   refine wpo_indexAddr (o' := (q.run - 1).toNat * 8) es_54 rfl rfl (by omega) (by omega) (by omega) rfl ?_
   refine wpo_fieldAddr (o' := (q.run - 1).toNat * 8 + 4) fo_45_3 rfl rfl rfl ?_
   have k333 := ((k151.grown0 hi308).grown hS328.grw (some_ne (by omega)))
   have hRO337 := (RowsO.ge (RowsO.low hRO144 hi308) hS328.grw hH (by omega))
   refine wpo_store1O (g := MTh.cells) (j := 4) (z := (mAt ms ((q.run - 1).toNat))) (z' := (⟨⟨(mAt ms ((q.run - 1).toNat)).t.kind, ((mAt ms ((q.run - 1).toNat)).t.lab), (mAt ms ((q.run - 1).toNat)).t.ve, check1 (tabT ms) q, (mAt ms ((q.run - 1).toNat)).t.slots, (mAt ms ((q.run - 1).toNat)).t.queue, (mAt ms ((q.run - 1).toNat)).t.to⟩, (mAt ms ((q.run - 1).toNat)).sa, (mAt ms ((q.run - 1).toNat)).sc, (mAt ms ((q.run - 1).toNat)).qa, (mAt ms ((q.run - 1).toNat)).qc⟩ : MTh)) (v := .int .i64 (check1 (tabT ms) q)) ot_3 rfl rfl rfl wide_mth k333 (mAt_get (show (q.run - 1).toNat < ms.length by omega)) (by omega) rfl rfl ?_
   intro w334 hO335 hg336
   have hb338 := KeepsI.own hb329 hg336 k333 (by decide) (by omega) (by omega)
   have hRO339 : RowsO 29 3 lo w334 (ms.set (q.run - 1).toNat (⟨⟨(mAt ms ((q.run - 1).toNat)).t.kind, ((mAt ms ((q.run - 1).toNat)).t.lab), (mAt ms ((q.run - 1).toNat)).t.ve, check1 (tabT ms) q, (mAt ms ((q.run - 1).toNat)).t.slots, (mAt ms ((q.run - 1).toNat)).t.queue, (mAt ms ((q.run - 1).toNat)).t.to⟩, (mAt ms ((q.run - 1).toNat)).sa, (mAt ms ((q.run - 1).toNat)).sc, (mAt ms ((q.run - 1).toNat)).qa, (mAt ms ((q.run - 1).toNat)).qc⟩ : MTh)) := RowsO.set (RowsO.own hRO337 hg336 k333 (by decide) (by decide)) (show (q.run - 1).toNat < ms.length by omega) ⟨rfl, rfl, rfl⟩ ⟨rfl, rfl, rfl⟩
   refine wpo_nil ?_
   refine wpf_seq_region ?_
   refine wpo_move (v := .slice (some ⟨B, 0, none⟩) ms.length cap) e309 rfl ?_
   refine wpo_move (v := .int .i64 (check1 (tabT ms) q)) e313 rfl ?_
   refine wpo_assign (v := .slice (some ⟨B, 0, none⟩) ms.length cap) rfl rfl ?_
   refine wpo_assign (v := .int .i64 (check1 (tabT ms) q)) rfl rfl ?_
   refine wpo_nil ?_
   refine wpf_ret ?_
   have hf : doCall (tabT ms) q = (tabT (ms.set (q.run - 1).toNat (⟨⟨(mAt ms ((q.run - 1).toNat)).t.kind, ((mAt ms ((q.run - 1).toNat)).t.lab), (mAt ms ((q.run - 1).toNat)).t.ve, check1 (tabT ms) q, (mAt ms ((q.run - 1).toNat)).t.slots, (mAt ms ((q.run - 1).toNat)).t.queue, (mAt ms ((q.run - 1).toNat)).t.to⟩, (mAt ms ((q.run - 1).toNat)).sa, (mAt ms ((q.run - 1).toNat)).sc, (mAt ms ((q.run - 1).toNat)).qa, (mAt ms ((q.run - 1).toNat)).qc⟩ : MTh)), check1 (tabT ms) q) := do_neg h330 rfl
   exact ⟨.tuple #[.slice (some ⟨B, 0, none⟩) ms.length cap, .int .i64 (check1 (tabT ms) q)], res2 rfl rfl rfl, ms.set (q.run - 1).toNat (⟨⟨(mAt ms ((q.run - 1).toNat)).t.kind, ((mAt ms ((q.run - 1).toNat)).t.lab), (mAt ms ((q.run - 1).toNat)).t.ve, check1 (tabT ms) q, (mAt ms ((q.run - 1).toNat)).t.slots, (mAt ms ((q.run - 1).toNat)).t.queue, (mAt ms ((q.run - 1).toNat)).t.to⟩, (mAt ms ((q.run - 1).toNat)).sa, (mAt ms ((q.run - 1).toNat)).sc, (mAt ms ((q.run - 1).toNat)).qa, (mAt ms ((q.run - 1).toNat)).qc⟩ : MTh), by rw [hf], by first | omega | (simp only [List.length_set, putT_len]; try omega), hO335, hRO339, by rw [hf], hb338⟩
  ·
   have h340 := of_decide_eq_false h330
   refine wpf_seq_region ?_
   refine wpo_fieldAddr (o' := 0) fo_76_0 e310 rfl rfl ?_
   have k341 := (((hN103.blk.grown0 hg108).grown0 hi308).grown hS328.grw (some_ne (by omega)))
   refine wpo_load1 (v := .int .i64 q.kind) ot_3 rfl (k341.cell rfl) rfl ?_
   refine wpo_eql (q := decide (q.kind = 3)) rfl rfl rfl rfl ?_
   refine wpo_assign (v := .bool (decide (q.kind = 3))) rfl rfl ?_
   refine wpo_nil ?_
   refine wpf_cond rfl (fun h342 => ?_) (fun h342 => ?_)
   ·
    have h343 := of_decide_eq_true h342
    refine wpf_draw (m := 25) (vals := [(29, .slice (some ⟨B, 0, none⟩) ms.length cap), (30, .pointer (some ⟨B101, 1, none⟩)), (31, .int .i64 q.run), (32, .int .i64 (q.run - 1)), (33, .pointer (some ⟨B, (q.run - 1).toNat * 8, none⟩)), (34, .pointer (some ⟨B, (q.run - 1).toNat * 8 + 5, none⟩)), (35, .slice ((mAt ms ((q.run - 1).toNat)).sa) ((mAt ms ((q.run - 1).toNat)).t.slots.length) ((mAt ms ((q.run - 1).toNat)).sc)), (36, .pointer (some ⟨B101, 3, none⟩)), (37, .int .i64 q.b), (38, .agg #[.int .i64 ((rAt ((mAt ms ((q.run - 1).toNat)).t.slots) ((q.a).toNat)).th), .int .i64 ((rAt ((mAt ms ((q.run - 1).toNat)).t.slots) ((q.a).toNat)).ve), .bool ((rAt ((mAt ms ((q.run - 1).toNat)).t.slots) ((q.a).toNat)).rd), .bool ((rAt ((mAt ms ((q.run - 1).toNat)).t.slots) ((q.a).toNat)).wr), .bool ((rAt ((mAt ms ((q.run - 1).toNat)).t.slots) ((q.a).toNat)).wk)]), (39, .pointer (some ⟨B101, 4, none⟩)), (40, .int .i64 q.n), (41, .int .i64 (q.n % 2)), (42, .bool (decide (q.n % 2 = 1))), (43, .pointer (some ⟨B101, 4, none⟩)), (44, .int .i64 q.n), (45, .int .i64 (q.n / 2)), (46, .int .i64 ((q.n / 2) % 2)), (47, .bool (decide ((q.n / 2) % 2 = 1))), (48, .pointer (some ⟨B101, 4, none⟩)), (49, .int .i64 q.n), (50, .int .i64 (q.n / 4)), (51, .int .i64 ((q.n / 4) % 2)), (52, .bool (decide ((q.n / 4) % 2 = 1))), (53, .agg #[.int .i64 ((l2Less (rAt ((mAt ms ((q.run - 1).toNat)).t.slots) ((q.a).toNat)) (decide (q.n % 2 = 1)) (decide ((q.n / 2) % 2 = 1)) (decide ((q.n / 4) % 2 = 1))).th), .int .i64 ((l2Less (rAt ((mAt ms ((q.run - 1).toNat)).t.slots) ((q.a).toNat)) (decide (q.n % 2 = 1)) (decide ((q.n / 2) % 2 = 1)) (decide ((q.n / 4) % 2 = 1))).ve), .bool ((l2Less (rAt ((mAt ms ((q.run - 1).toNat)).t.slots) ((q.a).toNat)) (decide (q.n % 2 = 1)) (decide ((q.n / 2) % 2 = 1)) (decide ((q.n / 4) % 2 = 1))).rd), .bool ((l2Less (rAt ((mAt ms ((q.run - 1).toNat)).t.slots) ((q.a).toNat)) (decide (q.n % 2 = 1)) (decide ((q.n / 2) % 2 = 1)) (decide ((q.n / 4) % 2 = 1))).wr), .bool ((l2Less (rAt ((mAt ms ((q.run - 1).toNat)).t.slots) ((q.a).toNat)) (decide (q.n % 2 = 1)) (decide ((q.n / 2) % 2 = 1)) (decide ((q.n / 4) % 2 = 1))).wk)])]) (fun w' => w327.grownBy w' none) mixed_ (by kernel_rfl) (grown_drew _) ?_ ?_
    ·
     refine yll_cons rfl (fun w380 hi381 => ?_) ?_
     ·
      have hb382 := KeepsI.low hb329 hi381
      refine wpo_move (v := .slice (some ⟨B, 0, none⟩) ms.length cap) e309 rfl ?_
      exact wpo_nil ⟨rfl, hi381⟩
     refine yll_cons rfl (fun w383 hi384 => ?_) ?_
     ·
      have hb385 := KeepsI.low hb329 hi384
      refine wpo_fieldAddr (o' := 1) fo_76_1 e310 rfl rfl ?_
      exact wpo_nil ⟨rfl, hi384⟩
     refine yll_cons rfl (fun w386 hi387 => ?_) ?_
     ·
      have hb388 := KeepsI.low hb329 hi387
      have k389 := (k341.grown0 hi387)
      refine wpo_load1 (v := .int .i64 q.run) ot_3 rfl (k389.cell rfl) rfl ?_
      exact wpo_nil ⟨rfl, hi387⟩
     refine yll_cons rfl (fun w390 hi391 => ?_) ?_
     ·
      have hb392 := KeepsI.low hb329 hi391
      refine wpo_sub (c := q.run - 1) rfl rfl (by omega) (by omega) (by omega) rfl ?_
      exact wpo_nil ⟨rfl, hi391⟩
     refine yll_cons rfl (fun w393 hi394 => ?_) ?_
     ·
      have hb395 := KeepsI.low hb329 hi394
      refine wpo_indexAddr (o' := (q.run - 1).toNat * 8) es_54 rfl rfl (by omega) (by omega) (by omega) rfl ?_
      exact wpo_nil ⟨rfl, hi394⟩
     refine yll_cons rfl (fun w396 hi397 => ?_) ?_
     ·
      have hb398 := KeepsI.low hb329 hi397
      refine wpo_fieldAddr (o' := (q.run - 1).toNat * 8 + 5) fo_45_4 rfl rfl rfl ?_
      exact wpo_nil ⟨rfl, hi397⟩
     refine yll_cons rfl (fun w399 hi400 => ?_) ?_
     ·
      have hb401 := KeepsI.low hb329 hi400
      have k402 := (((k151.grown0 hi308).grown hS328.grw (some_ne (by omega))).grown0 hi400)
      refine wpo_load1 (v := .slice ((mAt ms ((q.run - 1).toNat)).sa) ((mAt ms ((q.run - 1).toNat)).t.slots.length) ((mAt ms ((q.run - 1).toNat)).sc)) ot_27 rfl ((Own.range wide_mth k402 (mAt_get (show (q.run - 1).toNat < ms.length by omega))) 5 _ rfl) rfl ?_
      exact wpo_nil ⟨rfl, hi400⟩
     refine yll_cons rfl (fun w403 hi404 => ?_) ?_
     ·
      have hb405 := KeepsI.low hb329 hi404
      refine wpo_fieldAddr (o' := 3) fo_76_3 e310 rfl rfl ?_
      exact wpo_nil ⟨rfl, hi404⟩
     refine yll_cons rfl (fun w406 hi407 => ?_) ?_
     ·
      have hb408 := KeepsI.low hb329 hi407
      have k409 := (k341.grown0 hi407)
      refine wpo_load1 (v := .int .i64 q.b) ot_3 rfl (k409.cell rfl) rfl ?_
      exact wpo_nil ⟨rfl, hi407⟩
     refine yll_cons rfl (fun w410 hi411 => ?_) ?_
     ·
      have hb412 := KeepsI.low hb329 hi411
      have k413 := (hS328.blk.grown0 hi411)
      refine wpo_loadn (vs := [.int .i64 ((rAt ((mAt ms ((q.run - 1).toNat)).t.slots) ((q.a).toNat)).th), .int .i64 ((rAt ((mAt ms ((q.run - 1).toNat)).t.slots) ((q.a).toNat)).ve), .bool ((rAt ((mAt ms ((q.run - 1).toNat)).t.slots) ((q.a).toNat)).rd), .bool ((rAt ((mAt ms ((q.run - 1).toNat)).t.slots) ((q.a).toNat)).wr), .bool ((rAt ((mAt ms ((q.run - 1).toNat)).t.slots) ((q.a).toNat)).wk)]) rt_29 e326 rfl (k413.rangeL 0 5 rfl) rfl ?_
      exact wpo_nil ⟨rfl, hi411⟩
     refine yll_cons rfl (fun w414 hi415 => ?_) ?_
     ·
      have hb416 := KeepsI.low hb329 hi415
      refine wpo_fieldAddr (o' := 4) fo_76_4 e310 rfl rfl ?_
      exact wpo_nil ⟨rfl, hi415⟩
     refine yll_cons rfl (fun w417 hi418 => ?_) ?_
     ·
      have hb419 := KeepsI.low hb329 hi418
      have k420 := (k341.grown0 hi418)
      refine wpo_load1 (v := .int .i64 q.n) ot_3 rfl (k420.cell rfl) rfl ?_
      exact wpo_nil ⟨rfl, hi418⟩
     refine yll_cons rfl (fun w421 hi422 => ?_) ?_
     ·
      have hb423 := KeepsI.low hb329 hi422
      refine wpo_rem (c := q.n % 2) rfl rfl (by omega) (by omega) (by omega) rfl rfl ?_
      exact wpo_nil ⟨rfl, hi422⟩
     refine yll_cons rfl (fun w424 hi425 => ?_) ?_
     ·
      have hb426 := KeepsI.low hb329 hi425
      refine wpo_eql (q := decide (q.n % 2 = 1)) rfl rfl rfl rfl ?_
      exact wpo_nil ⟨rfl, hi425⟩
     refine yll_cons rfl (fun w427 hi428 => ?_) ?_
     ·
      have hb429 := KeepsI.low hb329 hi428
      refine wpo_fieldAddr (o' := 4) fo_76_4 e310 rfl rfl ?_
      exact wpo_nil ⟨rfl, hi428⟩
     refine yll_cons rfl (fun w430 hi431 => ?_) ?_
     ·
      have hb432 := KeepsI.low hb329 hi431
      have k433 := (k341.grown0 hi431)
      refine wpo_load1 (v := .int .i64 q.n) ot_3 rfl (k433.cell rfl) rfl ?_
      exact wpo_nil ⟨rfl, hi431⟩
     refine yll_cons rfl (fun w434 hi435 => ?_) ?_
     ·
      have hb436 := KeepsI.low hb329 hi435
      refine wpo_quo (c := q.n / 2) rfl rfl (by omega) (by omega) (by omega) rfl rfl ?_
      exact wpo_nil ⟨rfl, hi435⟩
     refine yll_cons rfl (fun w437 hi438 => ?_) ?_
     ·
      have hb439 := KeepsI.low hb329 hi438
      refine wpo_rem (c := (q.n / 2) % 2) rfl rfl (by omega) (by omega) (by omega) rfl rfl ?_
      exact wpo_nil ⟨rfl, hi438⟩
     refine yll_cons rfl (fun w440 hi441 => ?_) ?_
     ·
      have hb442 := KeepsI.low hb329 hi441
      refine wpo_eql (q := decide ((q.n / 2) % 2 = 1)) rfl rfl rfl rfl ?_
      exact wpo_nil ⟨rfl, hi441⟩
     refine yll_cons rfl (fun w443 hi444 => ?_) ?_
     ·
      have hb445 := KeepsI.low hb329 hi444
      refine wpo_fieldAddr (o' := 4) fo_76_4 e310 rfl rfl ?_
      exact wpo_nil ⟨rfl, hi444⟩
     refine yll_cons rfl (fun w446 hi447 => ?_) ?_
     ·
      have hb448 := KeepsI.low hb329 hi447
      have k449 := (k341.grown0 hi447)
      refine wpo_load1 (v := .int .i64 q.n) ot_3 rfl (k449.cell rfl) rfl ?_
      exact wpo_nil ⟨rfl, hi447⟩
     refine yll_cons rfl (fun w450 hi451 => ?_) ?_
     ·
      have hb452 := KeepsI.low hb329 hi451
      refine wpo_quo (c := q.n / 4) rfl rfl (by omega) (by omega) (by omega) rfl rfl ?_
      exact wpo_nil ⟨rfl, hi451⟩
     refine yll_cons rfl (fun w453 hi454 => ?_) ?_
     ·
      have hb455 := KeepsI.low hb329 hi454
      refine wpo_rem (c := (q.n / 4) % 2) rfl rfl (by omega) (by omega) (by omega) rfl rfl ?_
      exact wpo_nil ⟨rfl, hi454⟩
     refine yll_cons rfl (fun w456 hi457 => ?_) ?_
     ·
      have hb458 := KeepsI.low hb329 hi457
      refine wpo_eql (q := decide ((q.n / 4) % 2 = 1)) rfl rfl rfl rfl ?_
      exact wpo_nil ⟨rfl, hi457⟩
     refine yll_cons rfl (fun w459 hi460 => ?_) ?_
     ·
      have hb461 := KeepsI.low hb329 hi460
      refine wpo_call (vs := [.agg #[.int .i64 ((rAt ((mAt ms ((q.run - 1).toNat)).t.slots) ((q.a).toNat)).th), .int .i64 ((rAt ((mAt ms ((q.run - 1).toNat)).t.slots) ((q.a).toNat)).ve), .bool ((rAt ((mAt ms ((q.run - 1).toNat)).t.slots) ((q.a).toNat)).rd), .bool ((rAt ((mAt ms ((q.run - 1).toNat)).t.slots) ((q.a).toNat)).wr), .bool ((rAt ((mAt ms ((q.run - 1).toNat)).t.slots) ((q.a).toNat)).wk)], .bool (decide (q.n % 2 = 1)), .bool (decide ((q.n / 2) % 2 = 1)), .bool (decide ((q.n / 4) % 2 = 1))]) gf_100 (args_cons rfl (args_cons rfl (args_cons rfl (args_cons rfl args_nil)))) rfl (l2Less_c (rAt ((mAt ms ((q.run - 1).toNat)).t.slots) ((q.a).toNat)) (decide (q.n % 2 = 1)) (decide ((q.n / 2) % 2 = 1)) (decide ((q.n / 4) % 2 = 1)) _) ?_
      rintro _ w462 ⟨rfl, hg463⟩
      have hb464 := KeepsI.low hb461 hg463
      exact wpo_nil ⟨rfl, (grown_trans hi460 hg463)⟩
     exact yll_nil
    ·
     intro w465 hi466
     have hb467 := KeepsI.low hb329 hi466
     refine wpo_indexE es_27 rfl rfl hSa146 (Nat.zero_add _) (by omega) (by omega) rfl ?_
     have k468 := (((hSO148.grown0 hi308).grown hS328.grw (some_ne (by omega))).grown0 hi466)
     have hRO472 := (RowsO.low (RowsO.ge (RowsO.low hRO144 hi308) hS328.grw hH (by omega)) hi466)
     have k473 := (((k151.grown0 hi308).grown hS328.grw (some_ne (by omega))).grown0 hi466)
     refine wpo_storenO (g := Rt.cells) (z' := (l2Less (rAt ((mAt ms ((q.run - 1).toNat)).t.slots) ((q.a).toNat)) (decide (q.n % 2 = 1)) (decide ((q.n / 2) % 2 = 1)) (decide ((q.n / 4) % 2 = 1)))) rt_29 rfl rfl (onec_rt _) wide_rt k468 (by omega) rfl ?_
     intro w469 hO470 hg471
     have hb474 := KeepsI.own hb467 hg471 k468 (by decide) (by omega) (by omega)
     have hRO475 := RowsO.put hRO472 (show (q.run - 1).toNat < ms.length by omega) hSa146 hSl147 k468 rfl hO470 hg471 (by decide)
     have k477 := (k473.grown hg471 (some_ne (by omega)))
     have k476 := own_putT (i := (q.run - 1).toNat) (j := (q.b).toNat) (x := (l2Less (rAt ((mAt ms ((q.run - 1).toNat)).t.slots) ((q.a).toNat)) (decide (q.n % 2 = 1)) (decide ((q.n / 2) % 2 = 1)) (decide ((q.n / 4) % 2 = 1)))) k477 (by omega)
     refine wpo_nil ?_
     refine blk_n ?_
     refine thn_n ?_
     refine wpf_seq_region ?_
     refine wpo_move (v := .slice (some ⟨B, 0, none⟩) ms.length cap) e309 rfl ?_
     refine wpo_fieldAddr (o' := 1) fo_76_1 e310 rfl rfl ?_
     have k478 := ((k341.grown0 hi466).grown hg471 (some_ne (by omega)))
     refine wpo_load1 (v := .int .i64 q.run) ot_3 rfl (k478.cell rfl) rfl ?_
     refine wpo_sub (c := q.run - 1) rfl rfl (by omega) (by omega) (by omega) rfl ?_
     refine wpo_move (v := .int .i64 (check1 (tabT ms) q)) e313 rfl ?_
     refine wpo_indexAddr (o' := (q.run - 1).toNat * 8) es_54 rfl rfl (by omega) (by omega) (by omega) rfl ?_
     refine wpo_fieldAddr (o' := (q.run - 1).toNat * 8 + 4) fo_45_3 rfl rfl rfl ?_
     refine wpo_store1O (g := MTh.cells) (j := 4) (z := (mAt (putT ms ((q.run - 1).toNat) ((q.b).toNat) (l2Less (rAt ((mAt ms ((q.run - 1).toNat)).t.slots) ((q.a).toNat)) (decide (q.n % 2 = 1)) (decide ((q.n / 2) % 2 = 1)) (decide ((q.n / 4) % 2 = 1)))) ((q.run - 1).toNat))) (z' := (⟨⟨(mAt (putT ms ((q.run - 1).toNat) ((q.b).toNat) (l2Less (rAt ((mAt ms ((q.run - 1).toNat)).t.slots) ((q.a).toNat)) (decide (q.n % 2 = 1)) (decide ((q.n / 2) % 2 = 1)) (decide ((q.n / 4) % 2 = 1)))) ((q.run - 1).toNat)).t.kind, ((mAt (putT ms ((q.run - 1).toNat) ((q.b).toNat) (l2Less (rAt ((mAt ms ((q.run - 1).toNat)).t.slots) ((q.a).toNat)) (decide (q.n % 2 = 1)) (decide ((q.n / 2) % 2 = 1)) (decide ((q.n / 4) % 2 = 1)))) ((q.run - 1).toNat)).t.lab), (mAt (putT ms ((q.run - 1).toNat) ((q.b).toNat) (l2Less (rAt ((mAt ms ((q.run - 1).toNat)).t.slots) ((q.a).toNat)) (decide (q.n % 2 = 1)) (decide ((q.n / 2) % 2 = 1)) (decide ((q.n / 4) % 2 = 1)))) ((q.run - 1).toNat)).t.ve, check1 (tabT ms) q, (mAt (putT ms ((q.run - 1).toNat) ((q.b).toNat) (l2Less (rAt ((mAt ms ((q.run - 1).toNat)).t.slots) ((q.a).toNat)) (decide (q.n % 2 = 1)) (decide ((q.n / 2) % 2 = 1)) (decide ((q.n / 4) % 2 = 1)))) ((q.run - 1).toNat)).t.slots, (mAt (putT ms ((q.run - 1).toNat) ((q.b).toNat) (l2Less (rAt ((mAt ms ((q.run - 1).toNat)).t.slots) ((q.a).toNat)) (decide (q.n % 2 = 1)) (decide ((q.n / 2) % 2 = 1)) (decide ((q.n / 4) % 2 = 1)))) ((q.run - 1).toNat)).t.queue, (mAt (putT ms ((q.run - 1).toNat) ((q.b).toNat) (l2Less (rAt ((mAt ms ((q.run - 1).toNat)).t.slots) ((q.a).toNat)) (decide (q.n % 2 = 1)) (decide ((q.n / 2) % 2 = 1)) (decide ((q.n / 4) % 2 = 1)))) ((q.run - 1).toNat)).t.to⟩, (mAt (putT ms ((q.run - 1).toNat) ((q.b).toNat) (l2Less (rAt ((mAt ms ((q.run - 1).toNat)).t.slots) ((q.a).toNat)) (decide (q.n % 2 = 1)) (decide ((q.n / 2) % 2 = 1)) (decide ((q.n / 4) % 2 = 1)))) ((q.run - 1).toNat)).sa, (mAt (putT ms ((q.run - 1).toNat) ((q.b).toNat) (l2Less (rAt ((mAt ms ((q.run - 1).toNat)).t.slots) ((q.a).toNat)) (decide (q.n % 2 = 1)) (decide ((q.n / 2) % 2 = 1)) (decide ((q.n / 4) % 2 = 1)))) ((q.run - 1).toNat)).sc, (mAt (putT ms ((q.run - 1).toNat) ((q.b).toNat) (l2Less (rAt ((mAt ms ((q.run - 1).toNat)).t.slots) ((q.a).toNat)) (decide (q.n % 2 = 1)) (decide ((q.n / 2) % 2 = 1)) (decide ((q.n / 4) % 2 = 1)))) ((q.run - 1).toNat)).qa, (mAt (putT ms ((q.run - 1).toNat) ((q.b).toNat) (l2Less (rAt ((mAt ms ((q.run - 1).toNat)).t.slots) ((q.a).toNat)) (decide (q.n % 2 = 1)) (decide ((q.n / 2) % 2 = 1)) (decide ((q.n / 4) % 2 = 1)))) ((q.run - 1).toNat)).qc⟩ : MTh)) (v := .int .i64 (check1 (tabT ms) q)) ot_3 rfl rfl rfl wide_mth k476 (mAt_get (show (q.run - 1).toNat < (putT ms ((q.run - 1).toNat) ((q.b).toNat) (l2Less (rAt ((mAt ms ((q.run - 1).toNat)).t.slots) ((q.a).toNat)) (decide (q.n % 2 = 1)) (decide ((q.n / 2) % 2 = 1)) (decide ((q.n / 4) % 2 = 1)))).length by (simp only [List.length_set, putT_len]; omega))) (by omega) rfl rfl ?_
     intro w479 hO480 hg481
     have hb482 := KeepsI.own hb474 hg481 k476 (by decide) (by omega) (by omega)
     have hRO483 : RowsO 29 3 lo w479 ((putT ms ((q.run - 1).toNat) ((q.b).toNat) (l2Less (rAt ((mAt ms ((q.run - 1).toNat)).t.slots) ((q.a).toNat)) (decide (q.n % 2 = 1)) (decide ((q.n / 2) % 2 = 1)) (decide ((q.n / 4) % 2 = 1)))).set (q.run - 1).toNat (⟨⟨(mAt (putT ms ((q.run - 1).toNat) ((q.b).toNat) (l2Less (rAt ((mAt ms ((q.run - 1).toNat)).t.slots) ((q.a).toNat)) (decide (q.n % 2 = 1)) (decide ((q.n / 2) % 2 = 1)) (decide ((q.n / 4) % 2 = 1)))) ((q.run - 1).toNat)).t.kind, ((mAt (putT ms ((q.run - 1).toNat) ((q.b).toNat) (l2Less (rAt ((mAt ms ((q.run - 1).toNat)).t.slots) ((q.a).toNat)) (decide (q.n % 2 = 1)) (decide ((q.n / 2) % 2 = 1)) (decide ((q.n / 4) % 2 = 1)))) ((q.run - 1).toNat)).t.lab), (mAt (putT ms ((q.run - 1).toNat) ((q.b).toNat) (l2Less (rAt ((mAt ms ((q.run - 1).toNat)).t.slots) ((q.a).toNat)) (decide (q.n % 2 = 1)) (decide ((q.n / 2) % 2 = 1)) (decide ((q.n / 4) % 2 = 1)))) ((q.run - 1).toNat)).t.ve, check1 (tabT ms) q, (mAt (putT ms ((q.run - 1).toNat) ((q.b).toNat) (l2Less (rAt ((mAt ms ((q.run - 1).toNat)).t.slots) ((q.a).toNat)) (decide (q.n % 2 = 1)) (decide ((q.n / 2) % 2 = 1)) (decide ((q.n / 4) % 2 = 1)))) ((q.run - 1).toNat)).t.slots, (mAt (putT ms ((q.run - 1).toNat) ((q.b).toNat) (l2Less (rAt ((mAt ms ((q.run - 1).toNat)).t.slots) ((q.a).toNat)) (decide (q.n % 2 = 1)) (decide ((q.n / 2) % 2 = 1)) (decide ((q.n / 4) % 2 = 1)))) ((q.run - 1).toNat)).t.queue, (mAt (putT ms ((q.run - 1).toNat) ((q.b).toNat) (l2Less (rAt ((mAt ms ((q.run - 1).toNat)).t.slots) ((q.a).toNat)) (decide (q.n % 2 = 1)) (decide ((q.n / 2) % 2 = 1)) (decide ((q.n / 4) % 2 = 1)))) ((q.run - 1).toNat)).t.to⟩, (mAt (putT ms ((q.run - 1).toNat) ((q.b).toNat) (l2Less (rAt ((mAt ms ((q.run - 1).toNat)).t.slots) ((q.a).toNat)) (decide (q.n % 2 = 1)) (decide ((q.n / 2) % 2 = 1)) (decide ((q.n / 4) % 2 = 1)))) ((q.run - 1).toNat)).sa, (mAt (putT ms ((q.run - 1).toNat) ((q.b).toNat) (l2Less (rAt ((mAt ms ((q.run - 1).toNat)).t.slots) ((q.a).toNat)) (decide (q.n % 2 = 1)) (decide ((q.n / 2) % 2 = 1)) (decide ((q.n / 4) % 2 = 1)))) ((q.run - 1).toNat)).sc, (mAt (putT ms ((q.run - 1).toNat) ((q.b).toNat) (l2Less (rAt ((mAt ms ((q.run - 1).toNat)).t.slots) ((q.a).toNat)) (decide (q.n % 2 = 1)) (decide ((q.n / 2) % 2 = 1)) (decide ((q.n / 4) % 2 = 1)))) ((q.run - 1).toNat)).qa, (mAt (putT ms ((q.run - 1).toNat) ((q.b).toNat) (l2Less (rAt ((mAt ms ((q.run - 1).toNat)).t.slots) ((q.a).toNat)) (decide (q.n % 2 = 1)) (decide ((q.n / 2) % 2 = 1)) (decide ((q.n / 4) % 2 = 1)))) ((q.run - 1).toNat)).qc⟩ : MTh)) := RowsO.set (RowsO.own hRO475 hg481 k476 (by decide) (by decide)) (show (q.run - 1).toNat < (putT ms ((q.run - 1).toNat) ((q.b).toNat) (l2Less (rAt ((mAt ms ((q.run - 1).toNat)).t.slots) ((q.a).toNat)) (decide (q.n % 2 = 1)) (decide ((q.n / 2) % 2 = 1)) (decide ((q.n / 4) % 2 = 1)))).length by (simp only [List.length_set, putT_len]; omega)) ⟨rfl, rfl, rfl⟩ ⟨rfl, rfl, rfl⟩
     refine wpo_nil ?_
     refine wpf_seq_region ?_
     refine wpo_move (v := .slice (some ⟨B, 0, none⟩) ms.length cap) e309 rfl ?_
     refine wpo_move (v := .int .i64 (check1 (tabT ms) q)) e313 rfl ?_
     refine wpo_assign (v := .slice (some ⟨B, 0, none⟩) ms.length cap) rfl rfl ?_
     refine wpo_assign (v := .int .i64 (check1 (tabT ms) q)) rfl rfl ?_
     refine wpo_nil ?_
     refine wpf_ret ?_
     have hf : doCall (tabT ms) q = (tabT ((putT ms ((q.run - 1).toNat) ((q.b).toNat) (l2Less (rAt ((mAt ms ((q.run - 1).toNat)).t.slots) ((q.a).toNat)) (decide (q.n % 2 = 1)) (decide ((q.n / 2) % 2 = 1)) (decide ((q.n / 4) % 2 = 1)))).set (q.run - 1).toNat (⟨⟨(mAt (putT ms ((q.run - 1).toNat) ((q.b).toNat) (l2Less (rAt ((mAt ms ((q.run - 1).toNat)).t.slots) ((q.a).toNat)) (decide (q.n % 2 = 1)) (decide ((q.n / 2) % 2 = 1)) (decide ((q.n / 4) % 2 = 1)))) ((q.run - 1).toNat)).t.kind, ((mAt (putT ms ((q.run - 1).toNat) ((q.b).toNat) (l2Less (rAt ((mAt ms ((q.run - 1).toNat)).t.slots) ((q.a).toNat)) (decide (q.n % 2 = 1)) (decide ((q.n / 2) % 2 = 1)) (decide ((q.n / 4) % 2 = 1)))) ((q.run - 1).toNat)).t.lab), (mAt (putT ms ((q.run - 1).toNat) ((q.b).toNat) (l2Less (rAt ((mAt ms ((q.run - 1).toNat)).t.slots) ((q.a).toNat)) (decide (q.n % 2 = 1)) (decide ((q.n / 2) % 2 = 1)) (decide ((q.n / 4) % 2 = 1)))) ((q.run - 1).toNat)).t.ve, check1 (tabT ms) q, (mAt (putT ms ((q.run - 1).toNat) ((q.b).toNat) (l2Less (rAt ((mAt ms ((q.run - 1).toNat)).t.slots) ((q.a).toNat)) (decide (q.n % 2 = 1)) (decide ((q.n / 2) % 2 = 1)) (decide ((q.n / 4) % 2 = 1)))) ((q.run - 1).toNat)).t.slots, (mAt (putT ms ((q.run - 1).toNat) ((q.b).toNat) (l2Less (rAt ((mAt ms ((q.run - 1).toNat)).t.slots) ((q.a).toNat)) (decide (q.n % 2 = 1)) (decide ((q.n / 2) % 2 = 1)) (decide ((q.n / 4) % 2 = 1)))) ((q.run - 1).toNat)).t.queue, (mAt (putT ms ((q.run - 1).toNat) ((q.b).toNat) (l2Less (rAt ((mAt ms ((q.run - 1).toNat)).t.slots) ((q.a).toNat)) (decide (q.n % 2 = 1)) (decide ((q.n / 2) % 2 = 1)) (decide ((q.n / 4) % 2 = 1)))) ((q.run - 1).toNat)).t.to⟩, (mAt (putT ms ((q.run - 1).toNat) ((q.b).toNat) (l2Less (rAt ((mAt ms ((q.run - 1).toNat)).t.slots) ((q.a).toNat)) (decide (q.n % 2 = 1)) (decide ((q.n / 2) % 2 = 1)) (decide ((q.n / 4) % 2 = 1)))) ((q.run - 1).toNat)).sa, (mAt (putT ms ((q.run - 1).toNat) ((q.b).toNat) (l2Less (rAt ((mAt ms ((q.run - 1).toNat)).t.slots) ((q.a).toNat)) (decide (q.n % 2 = 1)) (decide ((q.n / 2) % 2 = 1)) (decide ((q.n / 4) % 2 = 1)))) ((q.run - 1).toNat)).sc, (mAt (putT ms ((q.run - 1).toNat) ((q.b).toNat) (l2Less (rAt ((mAt ms ((q.run - 1).toNat)).t.slots) ((q.a).toNat)) (decide (q.n % 2 = 1)) (decide ((q.n / 2) % 2 = 1)) (decide ((q.n / 4) % 2 = 1)))) ((q.run - 1).toNat)).qa, (mAt (putT ms ((q.run - 1).toNat) ((q.b).toNat) (l2Less (rAt ((mAt ms ((q.run - 1).toNat)).t.slots) ((q.a).toNat)) (decide (q.n % 2 = 1)) (decide ((q.n / 2) % 2 = 1)) (decide ((q.n / 4) % 2 = 1)))) ((q.run - 1).toNat)).qc⟩ : MTh)), check1 (tabT ms) q) := do_copy h330 h342 rfl rfl
     exact ⟨.tuple #[.slice (some ⟨B, 0, none⟩) ms.length cap, .int .i64 (check1 (tabT ms) q)], res2 rfl rfl rfl, (putT ms ((q.run - 1).toNat) ((q.b).toNat) (l2Less (rAt ((mAt ms ((q.run - 1).toNat)).t.slots) ((q.a).toNat)) (decide (q.n % 2 = 1)) (decide ((q.n / 2) % 2 = 1)) (decide ((q.n / 4) % 2 = 1)))).set (q.run - 1).toNat (⟨⟨(mAt (putT ms ((q.run - 1).toNat) ((q.b).toNat) (l2Less (rAt ((mAt ms ((q.run - 1).toNat)).t.slots) ((q.a).toNat)) (decide (q.n % 2 = 1)) (decide ((q.n / 2) % 2 = 1)) (decide ((q.n / 4) % 2 = 1)))) ((q.run - 1).toNat)).t.kind, ((mAt (putT ms ((q.run - 1).toNat) ((q.b).toNat) (l2Less (rAt ((mAt ms ((q.run - 1).toNat)).t.slots) ((q.a).toNat)) (decide (q.n % 2 = 1)) (decide ((q.n / 2) % 2 = 1)) (decide ((q.n / 4) % 2 = 1)))) ((q.run - 1).toNat)).t.lab), (mAt (putT ms ((q.run - 1).toNat) ((q.b).toNat) (l2Less (rAt ((mAt ms ((q.run - 1).toNat)).t.slots) ((q.a).toNat)) (decide (q.n % 2 = 1)) (decide ((q.n / 2) % 2 = 1)) (decide ((q.n / 4) % 2 = 1)))) ((q.run - 1).toNat)).t.ve, check1 (tabT ms) q, (mAt (putT ms ((q.run - 1).toNat) ((q.b).toNat) (l2Less (rAt ((mAt ms ((q.run - 1).toNat)).t.slots) ((q.a).toNat)) (decide (q.n % 2 = 1)) (decide ((q.n / 2) % 2 = 1)) (decide ((q.n / 4) % 2 = 1)))) ((q.run - 1).toNat)).t.slots, (mAt (putT ms ((q.run - 1).toNat) ((q.b).toNat) (l2Less (rAt ((mAt ms ((q.run - 1).toNat)).t.slots) ((q.a).toNat)) (decide (q.n % 2 = 1)) (decide ((q.n / 2) % 2 = 1)) (decide ((q.n / 4) % 2 = 1)))) ((q.run - 1).toNat)).t.queue, (mAt (putT ms ((q.run - 1).toNat) ((q.b).toNat) (l2Less (rAt ((mAt ms ((q.run - 1).toNat)).t.slots) ((q.a).toNat)) (decide (q.n % 2 = 1)) (decide ((q.n / 2) % 2 = 1)) (decide ((q.n / 4) % 2 = 1)))) ((q.run - 1).toNat)).t.to⟩, (mAt (putT ms ((q.run - 1).toNat) ((q.b).toNat) (l2Less (rAt ((mAt ms ((q.run - 1).toNat)).t.slots) ((q.a).toNat)) (decide (q.n % 2 = 1)) (decide ((q.n / 2) % 2 = 1)) (decide ((q.n / 4) % 2 = 1)))) ((q.run - 1).toNat)).sa, (mAt (putT ms ((q.run - 1).toNat) ((q.b).toNat) (l2Less (rAt ((mAt ms ((q.run - 1).toNat)).t.slots) ((q.a).toNat)) (decide (q.n % 2 = 1)) (decide ((q.n / 2) % 2 = 1)) (decide ((q.n / 4) % 2 = 1)))) ((q.run - 1).toNat)).sc, (mAt (putT ms ((q.run - 1).toNat) ((q.b).toNat) (l2Less (rAt ((mAt ms ((q.run - 1).toNat)).t.slots) ((q.a).toNat)) (decide (q.n % 2 = 1)) (decide ((q.n / 2) % 2 = 1)) (decide ((q.n / 4) % 2 = 1)))) ((q.run - 1).toNat)).qa, (mAt (putT ms ((q.run - 1).toNat) ((q.b).toNat) (l2Less (rAt ((mAt ms ((q.run - 1).toNat)).t.slots) ((q.a).toNat)) (decide (q.n % 2 = 1)) (decide ((q.n / 2) % 2 = 1)) (decide ((q.n / 4) % 2 = 1)))) ((q.run - 1).toNat)).qc⟩ : MTh), by rw [hf], by first | omega | (simp only [List.length_set, putT_len]; try omega), hO480, hRO483, by rw [hf], hb482⟩
   ·
    have h484 := of_decide_eq_false h342
    refine wpf_seq_region ?_
    refine wpo_move (v := .slice (some ⟨B, 0, none⟩) ms.length cap) e309 rfl ?_
    refine wpo_loadn (vs := [.int .i64 ((rAt ((mAt ms ((q.run - 1).toNat)).t.slots) ((q.a).toNat)).th), .int .i64 ((rAt ((mAt ms ((q.run - 1).toNat)).t.slots) ((q.a).toNat)).ve), .bool ((rAt ((mAt ms ((q.run - 1).toNat)).t.slots) ((q.a).toNat)).rd), .bool ((rAt ((mAt ms ((q.run - 1).toNat)).t.slots) ((q.a).toNat)).wr), .bool ((rAt ((mAt ms ((q.run - 1).toNat)).t.slots) ((q.a).toNat)).wk)]) rt_29 e326 rfl (hS328.blk.rangeL 0 5 rfl) rfl ?_
    have hRO485 := (RowsO.ge (RowsO.low hRO144 hi308) hS328.grw hH (by omega))
    have k486 := ((k151.grown0 hi308).grown hS328.grw (some_ne (by omega)))
    refine wpo_call (vs := [.slice (some ⟨B, 0, none⟩) ms.length cap, .agg #[.int .i64 ((rAt ((mAt ms ((q.run - 1).toNat)).t.slots) ((q.a).toNat)).th), .int .i64 ((rAt ((mAt ms ((q.run - 1).toNat)).t.slots) ((q.a).toNat)).ve), .bool ((rAt ((mAt ms ((q.run - 1).toNat)).t.slots) ((q.a).toNat)).rd), .bool ((rAt ((mAt ms ((q.run - 1).toNat)).t.slots) ((q.a).toNat)).wr), .bool ((rAt ((mAt ms ((q.run - 1).toNat)).t.slots) ((q.a).toNat)).wk)]]) gf_120 (args_cons rfl (args_cons rfl args_nil)) rfl (l3Live_c (rAt ((mAt ms ((q.run - 1).toNat)).t.slots) ((q.a).toNat)) (by omega) _ ms _ _ (RowsO.tab hRO485 k486) hTL (by omega)) ?_
    rintro _ w487 ⟨rfl, hg488⟩
    have hb489 := KeepsI.low hb329 hg488
    refine wpo_assign (v := .bool (live (tabT ms) (rAt ((mAt ms ((q.run - 1).toNat)).t.slots) ((q.a).toNat)))) rfl rfl ?_
    refine wpo_nil ?_
    refine wpf_cond rfl (fun h490 => ?_) (fun h490 => ?_)
    ·
     refine wpf_seq_region ?_
     refine wpo_move (v := .slice (some ⟨B, 0, none⟩) ms.length cap) e309 rfl ?_
     have k491 := (k341.grown0 hg488)
     refine wpo_loadn (vs := [.int .i64 q.kind, .int .i64 q.run, .int .i64 q.a, .int .i64 q.b, .int .i64 q.n]) rt_76 e310 rfl (k491.rangeL 0 5 rfl) rfl ?_
     have k492 := (hS328.blk.grown0 hg488)
     refine wpo_loadn (vs := [.int .i64 ((rAt ((mAt ms ((q.run - 1).toNat)).t.slots) ((q.a).toNat)).th), .int .i64 ((rAt ((mAt ms ((q.run - 1).toNat)).t.slots) ((q.a).toNat)).ve), .bool ((rAt ((mAt ms ((q.run - 1).toNat)).t.slots) ((q.a).toNat)).rd), .bool ((rAt ((mAt ms ((q.run - 1).toNat)).t.slots) ((q.a).toNat)).wr), .bool ((rAt ((mAt ms ((q.run - 1).toNat)).t.slots) ((q.a).toNat)).wk)]) rt_29 e326 rfl (k492.rangeL 0 5 rfl) rfl ?_
     have k493 := (k486.grown0 hg488)
     have k494 := (((hSO148.grown0 hi308).grown hS328.grw (some_ne (by omega))).grown0 hg488)
     have hRO495 := (RowsO.low hRO485 hg488)
     have hF496 := farOk_m hp h330 h342 h490
     have hth1 := hF496.th
     rw [tabT_len] at hth1
     refine wpo_call (vs := [.slice (some ⟨B, 0, none⟩) ms.length cap, .agg #[.int .i64 q.kind, .int .i64 q.run, .int .i64 q.a, .int .i64 q.b, .int .i64 q.n], .agg #[.int .i64 ((rAt ((mAt ms ((q.run - 1).toNat)).t.slots) ((q.a).toNat)).th), .int .i64 ((rAt ((mAt ms ((q.run - 1).toNat)).t.slots) ((q.a).toNat)).ve), .bool ((rAt ((mAt ms ((q.run - 1).toNat)).t.slots) ((q.a).toNat)).rd), .bool ((rAt ((mAt ms ((q.run - 1).toNat)).t.slots) ((q.a).toNat)).wr), .bool ((rAt ((mAt ms ((q.run - 1).toNat)).t.slots) ((q.a).toNat)).wk)]]) gf_121 (args_cons rfl (args_cons rfl (args_cons rfl args_nil))) rfl (l12Far_c q (rAt ((mAt ms ((q.run - 1).toNat)).t.slots) ((q.a).toNat)) lo B cap ms _ k493 hRO495 hlo _ hH hBlt hb489.size hF496) ?_
     rintro _ w503 ⟨ms497, rfl, hl498, hO499, hRO500, htab501, hK502⟩
     have hb504 := KeepsI.trans hb489 hK502
     have hT505 : tableOk (tabT ms497) = true := by rw [htab501]; exact (far_ok hF496).1
     have hTL506 := TabLen.ok hT505
     have hml507 := tab_len hT505
     refine wpo_assign (v := .int .i64 ((far (tabT ms) q (rAt ((mAt ms ((q.run - 1).toNat)).t.slots) ((q.a).toNat))).2)) rfl rfl ?_
     refine wpo_nil ?_
     refine wpf_seq_region ?_
     refine wpo_move (v := .slice (some ⟨B, 0, none⟩) ms497.length cap) (e309.trans (congrArg (fun n : Nat => Value.slice (some ⟨B, 0, none⟩) n cap) hl498.symm)) rfl ?_
     refine wpo_fieldAddr (o' := 1) fo_76_1 e310 rfl rfl ?_
     have k508 := (Blk.keepsI k491 hK502 (Or.inr (Or.inr (by decide))))
     refine wpo_load1 (v := .int .i64 q.run) ot_3 rfl (k508.cell rfl) rfl ?_
     refine wpo_fieldAddr (o' := 0) fo_29_0 e326 rfl rfl ?_
     have k509 := (Blk.keepsI k492 hK502 (by omega))
     refine wpo_load1 (v := .int .i64 ((rAt ((mAt ms ((q.run - 1).toNat)).t.slots) ((q.a).toNat)).th)) ot_3 rfl (k509.cell rfl) rfl ?_
     refine wpo_call (vs := [.slice (some ⟨B, 0, none⟩) ms497.length cap, .int .i64 q.run, .int .i64 ((rAt ((mAt ms ((q.run - 1).toNat)).t.slots) ((q.a).toNat)).th)]) gf_122 (args_cons rfl (args_cons rfl (args_cons rfl args_nil))) rfl (l11Sees_c q.run ((rAt ((mAt ms ((q.run - 1).toNat)).t.slots) ((q.a).toNat)).th) _ ms497 _ _ (RowsO.tab hRO500 hO499) hTL506 (by omega) hT505 (by omega) (by omega)) ?_
     rintro _ w510 ⟨rfl, hg511⟩
     have hb512 := KeepsI.low hb504 hg511
     refine wpo_not (b' := !sees (tabT ms497) q.run ((rAt ((mAt ms ((q.run - 1).toNat)).t.slots) ((q.a).toNat)).th)) rfl rfl rfl ?_
     refine wpo_nil ?_
     refine wpf_cond rfl (fun h513 => ?_) (fun h513 => ?_)
     ·
      have h514 := nt_t h513
      refine wpf_region ?_
      refine wpo_assign (v := .int .i64 0) rfl rfl ?_
      refine wpo_nil ?_
      refine blk_n ?_
      refine thn_n ?_
      refine wpf_seq_region ?_
      refine wpo_move (v := .slice (some ⟨B, 0, none⟩) ms497.length cap) (e309.trans (congrArg (fun n : Nat => Value.slice (some ⟨B, 0, none⟩) n cap) hl498.symm)) rfl ?_
      refine wpo_fieldAddr (o' := 1) fo_76_1 e310 rfl rfl ?_
      have k515 := (k508.grown0 hg511)
      refine wpo_load1 (v := .int .i64 q.run) ot_3 rfl (k515.cell rfl) rfl ?_
      refine wpo_sub (c := q.run - 1) rfl rfl (by omega) (by omega) (by omega) rfl ?_
      refine wpo_move (v := .int .i64 0) rfl rfl ?_
      refine wpo_indexAddr (o' := (q.run - 1).toNat * 8) es_54 rfl rfl (by omega) (by omega) (by omega) rfl ?_
      refine wpo_fieldAddr (o' := (q.run - 1).toNat * 8 + 4) fo_45_3 rfl rfl rfl ?_
      have k516 := (hO499.grown0 hg511)
      have hRO520 := (RowsO.low hRO500 hg511)
      refine wpo_store1O (g := MTh.cells) (j := 4) (z := (mAt ms497 ((q.run - 1).toNat))) (z' := (⟨⟨(mAt ms497 ((q.run - 1).toNat)).t.kind, ((mAt ms497 ((q.run - 1).toNat)).t.lab), (mAt ms497 ((q.run - 1).toNat)).t.ve, 0, (mAt ms497 ((q.run - 1).toNat)).t.slots, (mAt ms497 ((q.run - 1).toNat)).t.queue, (mAt ms497 ((q.run - 1).toNat)).t.to⟩, (mAt ms497 ((q.run - 1).toNat)).sa, (mAt ms497 ((q.run - 1).toNat)).sc, (mAt ms497 ((q.run - 1).toNat)).qa, (mAt ms497 ((q.run - 1).toNat)).qc⟩ : MTh)) (v := .int .i64 0) ot_3 rfl rfl rfl wide_mth k516 (mAt_get (show (q.run - 1).toNat < ms497.length by omega)) (by omega) rfl rfl ?_
      intro w517 hO518 hg519
      have hb521 := KeepsI.own hb512 hg519 k516 (by decide) (by omega) (by omega)
      have hRO522 : RowsO 29 3 lo w517 (ms497.set (q.run - 1).toNat (⟨⟨(mAt ms497 ((q.run - 1).toNat)).t.kind, ((mAt ms497 ((q.run - 1).toNat)).t.lab), (mAt ms497 ((q.run - 1).toNat)).t.ve, 0, (mAt ms497 ((q.run - 1).toNat)).t.slots, (mAt ms497 ((q.run - 1).toNat)).t.queue, (mAt ms497 ((q.run - 1).toNat)).t.to⟩, (mAt ms497 ((q.run - 1).toNat)).sa, (mAt ms497 ((q.run - 1).toNat)).sc, (mAt ms497 ((q.run - 1).toNat)).qa, (mAt ms497 ((q.run - 1).toNat)).qc⟩ : MTh)) := RowsO.set (RowsO.own hRO520 hg519 k516 (by decide) (by decide)) (show (q.run - 1).toNat < ms497.length by omega) ⟨rfl, rfl, rfl⟩ ⟨rfl, rfl, rfl⟩
      refine wpo_nil ?_
      refine wpf_seq_region ?_
      refine wpo_move (v := .slice (some ⟨B, 0, none⟩) ms497.length cap) (e309.trans (congrArg (fun n : Nat => Value.slice (some ⟨B, 0, none⟩) n cap) hl498.symm)) rfl ?_
      refine wpo_move (v := .int .i64 0) rfl rfl ?_
      refine wpo_assign (v := .slice (some ⟨B, 0, none⟩) ms497.length cap) rfl rfl ?_
      refine wpo_assign (v := .int .i64 0) rfl rfl ?_
      refine wpo_nil ?_
      refine wpf_ret ?_
      have hf : doCall (tabT ms) q = (tabT (ms497.set (q.run - 1).toNat (⟨⟨(mAt ms497 ((q.run - 1).toNat)).t.kind, ((mAt ms497 ((q.run - 1).toNat)).t.lab), (mAt ms497 ((q.run - 1).toNat)).t.ve, 0, (mAt ms497 ((q.run - 1).toNat)).t.slots, (mAt ms497 ((q.run - 1).toNat)).t.queue, (mAt ms497 ((q.run - 1).toNat)).t.to⟩, (mAt ms497 ((q.run - 1).toNat)).sa, (mAt ms497 ((q.run - 1).toNat)).sc, (mAt ms497 ((q.run - 1).toNat)).qa, (mAt ms497 ((q.run - 1).toNat)).qc⟩ : MTh)), 0) := do_blind h330 h342 h490 htab501 h514 rfl
      exact ⟨.tuple #[.slice (some ⟨B, 0, none⟩) ms497.length cap, .int .i64 0], res2 rfl rfl rfl, ms497.set (q.run - 1).toNat (⟨⟨(mAt ms497 ((q.run - 1).toNat)).t.kind, ((mAt ms497 ((q.run - 1).toNat)).t.lab), (mAt ms497 ((q.run - 1).toNat)).t.ve, 0, (mAt ms497 ((q.run - 1).toNat)).t.slots, (mAt ms497 ((q.run - 1).toNat)).t.queue, (mAt ms497 ((q.run - 1).toNat)).t.to⟩, (mAt ms497 ((q.run - 1).toNat)).sa, (mAt ms497 ((q.run - 1).toNat)).sc, (mAt ms497 ((q.run - 1).toNat)).qa, (mAt ms497 ((q.run - 1).toNat)).qc⟩ : MTh), by rw [hf, hl498], by first | omega | (simp only [List.length_set, putT_len]; try omega), hO518, hRO522, by rw [hf], hb521⟩
     ·
      have h523 := nt_f h513
      refine wpf_skip ?_
      refine blk_n ?_
      refine thn_n ?_
      refine wpf_seq_region ?_
      refine wpo_move (v := .slice (some ⟨B, 0, none⟩) ms497.length cap) (e309.trans (congrArg (fun n : Nat => Value.slice (some ⟨B, 0, none⟩) n cap) hl498.symm)) rfl ?_
      refine wpo_fieldAddr (o' := 1) fo_76_1 e310 rfl rfl ?_
      have k524 := (k508.grown0 hg511)
      refine wpo_load1 (v := .int .i64 q.run) ot_3 rfl (k524.cell rfl) rfl ?_
      refine wpo_sub (c := q.run - 1) rfl rfl (by omega) (by omega) (by omega) rfl ?_
      refine wpo_move (v := .int .i64 ((far (tabT ms) q (rAt ((mAt ms ((q.run - 1).toNat)).t.slots) ((q.a).toNat))).2)) rfl rfl ?_
      refine wpo_indexAddr (o' := (q.run - 1).toNat * 8) es_54 rfl rfl (by omega) (by omega) (by omega) rfl ?_
      refine wpo_fieldAddr (o' := (q.run - 1).toNat * 8 + 4) fo_45_3 rfl rfl rfl ?_
      have k525 := (hO499.grown0 hg511)
      have hRO529 := (RowsO.low hRO500 hg511)
      refine wpo_store1O (g := MTh.cells) (j := 4) (z := (mAt ms497 ((q.run - 1).toNat))) (z' := (⟨⟨(mAt ms497 ((q.run - 1).toNat)).t.kind, ((mAt ms497 ((q.run - 1).toNat)).t.lab), (mAt ms497 ((q.run - 1).toNat)).t.ve, (far (tabT ms) q (rAt ((mAt ms ((q.run - 1).toNat)).t.slots) ((q.a).toNat))).2, (mAt ms497 ((q.run - 1).toNat)).t.slots, (mAt ms497 ((q.run - 1).toNat)).t.queue, (mAt ms497 ((q.run - 1).toNat)).t.to⟩, (mAt ms497 ((q.run - 1).toNat)).sa, (mAt ms497 ((q.run - 1).toNat)).sc, (mAt ms497 ((q.run - 1).toNat)).qa, (mAt ms497 ((q.run - 1).toNat)).qc⟩ : MTh)) (v := .int .i64 ((far (tabT ms) q (rAt ((mAt ms ((q.run - 1).toNat)).t.slots) ((q.a).toNat))).2)) ot_3 rfl rfl rfl wide_mth k525 (mAt_get (show (q.run - 1).toNat < ms497.length by omega)) (by omega) rfl rfl ?_
      intro w526 hO527 hg528
      have hb530 := KeepsI.own hb512 hg528 k525 (by decide) (by omega) (by omega)
      have hRO531 : RowsO 29 3 lo w526 (ms497.set (q.run - 1).toNat (⟨⟨(mAt ms497 ((q.run - 1).toNat)).t.kind, ((mAt ms497 ((q.run - 1).toNat)).t.lab), (mAt ms497 ((q.run - 1).toNat)).t.ve, (far (tabT ms) q (rAt ((mAt ms ((q.run - 1).toNat)).t.slots) ((q.a).toNat))).2, (mAt ms497 ((q.run - 1).toNat)).t.slots, (mAt ms497 ((q.run - 1).toNat)).t.queue, (mAt ms497 ((q.run - 1).toNat)).t.to⟩, (mAt ms497 ((q.run - 1).toNat)).sa, (mAt ms497 ((q.run - 1).toNat)).sc, (mAt ms497 ((q.run - 1).toNat)).qa, (mAt ms497 ((q.run - 1).toNat)).qc⟩ : MTh)) := RowsO.set (RowsO.own hRO529 hg528 k525 (by decide) (by decide)) (show (q.run - 1).toNat < ms497.length by omega) ⟨rfl, rfl, rfl⟩ ⟨rfl, rfl, rfl⟩
      refine wpo_nil ?_
      refine wpf_seq_region ?_
      refine wpo_move (v := .slice (some ⟨B, 0, none⟩) ms497.length cap) (e309.trans (congrArg (fun n : Nat => Value.slice (some ⟨B, 0, none⟩) n cap) hl498.symm)) rfl ?_
      refine wpo_move (v := .int .i64 ((far (tabT ms) q (rAt ((mAt ms ((q.run - 1).toNat)).t.slots) ((q.a).toNat))).2)) rfl rfl ?_
      refine wpo_assign (v := .slice (some ⟨B, 0, none⟩) ms497.length cap) rfl rfl ?_
      refine wpo_assign (v := .int .i64 ((far (tabT ms) q (rAt ((mAt ms ((q.run - 1).toNat)).t.slots) ((q.a).toNat))).2)) rfl rfl ?_
      refine wpo_nil ?_
      refine wpf_ret ?_
      have hf : doCall (tabT ms) q = (tabT (ms497.set (q.run - 1).toNat (⟨⟨(mAt ms497 ((q.run - 1).toNat)).t.kind, ((mAt ms497 ((q.run - 1).toNat)).t.lab), (mAt ms497 ((q.run - 1).toNat)).t.ve, (far (tabT ms) q (rAt ((mAt ms ((q.run - 1).toNat)).t.slots) ((q.a).toNat))).2, (mAt ms497 ((q.run - 1).toNat)).t.slots, (mAt ms497 ((q.run - 1).toNat)).t.queue, (mAt ms497 ((q.run - 1).toNat)).t.to⟩, (mAt ms497 ((q.run - 1).toNat)).sa, (mAt ms497 ((q.run - 1).toNat)).sc, (mAt ms497 ((q.run - 1).toNat)).qa, (mAt ms497 ((q.run - 1).toNat)).qc⟩ : MTh)), (far (tabT ms) q (rAt ((mAt ms ((q.run - 1).toNat)).t.slots) ((q.a).toNat))).2) := do_sees h330 h342 h490 htab501 h523 rfl
      exact ⟨.tuple #[.slice (some ⟨B, 0, none⟩) ms497.length cap, .int .i64 ((far (tabT ms) q (rAt ((mAt ms ((q.run - 1).toNat)).t.slots) ((q.a).toNat))).2)], res2 rfl rfl rfl, ms497.set (q.run - 1).toNat (⟨⟨(mAt ms497 ((q.run - 1).toNat)).t.kind, ((mAt ms497 ((q.run - 1).toNat)).t.lab), (mAt ms497 ((q.run - 1).toNat)).t.ve, (far (tabT ms) q (rAt ((mAt ms ((q.run - 1).toNat)).t.slots) ((q.a).toNat))).2, (mAt ms497 ((q.run - 1).toNat)).t.slots, (mAt ms497 ((q.run - 1).toNat)).t.queue, (mAt ms497 ((q.run - 1).toNat)).t.to⟩, (mAt ms497 ((q.run - 1).toNat)).sa, (mAt ms497 ((q.run - 1).toNat)).sc, (mAt ms497 ((q.run - 1).toNat)).qa, (mAt ms497 ((q.run - 1).toNat)).qc⟩ : MTh), by rw [hf, hl498], by first | omega | (simp only [List.length_set, putT_len]; try omega), hO527, hRO531, by rw [hf], hb530⟩
    ·
     refine wpf_skip ?_
     refine blk_n ?_
     refine thn_n ?_
     refine wpf_seq_region ?_
     refine wpo_move (v := .slice (some ⟨B, 0, none⟩) ms.length cap) e309 rfl ?_
     refine wpo_fieldAddr (o' := 1) fo_76_1 e310 rfl rfl ?_
     have k532 := (k341.grown0 hg488)
     refine wpo_load1 (v := .int .i64 q.run) ot_3 rfl (k532.cell rfl) rfl ?_
     refine wpo_sub (c := q.run - 1) rfl rfl (by omega) (by omega) (by omega) rfl ?_
     refine wpo_move (v := .int .i64 (check1 (tabT ms) q)) e313 rfl ?_
     refine wpo_indexAddr (o' := (q.run - 1).toNat * 8) es_54 rfl rfl (by omega) (by omega) (by omega) rfl ?_
     refine wpo_fieldAddr (o' := (q.run - 1).toNat * 8 + 4) fo_45_3 rfl rfl rfl ?_
     have k533 := (k486.grown0 hg488)
     have hRO537 := (RowsO.low hRO485 hg488)
     refine wpo_store1O (g := MTh.cells) (j := 4) (z := (mAt ms ((q.run - 1).toNat))) (z' := (⟨⟨(mAt ms ((q.run - 1).toNat)).t.kind, ((mAt ms ((q.run - 1).toNat)).t.lab), (mAt ms ((q.run - 1).toNat)).t.ve, check1 (tabT ms) q, (mAt ms ((q.run - 1).toNat)).t.slots, (mAt ms ((q.run - 1).toNat)).t.queue, (mAt ms ((q.run - 1).toNat)).t.to⟩, (mAt ms ((q.run - 1).toNat)).sa, (mAt ms ((q.run - 1).toNat)).sc, (mAt ms ((q.run - 1).toNat)).qa, (mAt ms ((q.run - 1).toNat)).qc⟩ : MTh)) (v := .int .i64 (check1 (tabT ms) q)) ot_3 rfl rfl rfl wide_mth k533 (mAt_get (show (q.run - 1).toNat < ms.length by omega)) (by omega) rfl rfl ?_
     intro w534 hO535 hg536
     have hb538 := KeepsI.own hb489 hg536 k533 (by decide) (by omega) (by omega)
     have hRO539 : RowsO 29 3 lo w534 (ms.set (q.run - 1).toNat (⟨⟨(mAt ms ((q.run - 1).toNat)).t.kind, ((mAt ms ((q.run - 1).toNat)).t.lab), (mAt ms ((q.run - 1).toNat)).t.ve, check1 (tabT ms) q, (mAt ms ((q.run - 1).toNat)).t.slots, (mAt ms ((q.run - 1).toNat)).t.queue, (mAt ms ((q.run - 1).toNat)).t.to⟩, (mAt ms ((q.run - 1).toNat)).sa, (mAt ms ((q.run - 1).toNat)).sc, (mAt ms ((q.run - 1).toNat)).qa, (mAt ms ((q.run - 1).toNat)).qc⟩ : MTh)) := RowsO.set (RowsO.own hRO537 hg536 k533 (by decide) (by decide)) (show (q.run - 1).toNat < ms.length by omega) ⟨rfl, rfl, rfl⟩ ⟨rfl, rfl, rfl⟩
     refine wpo_nil ?_
     refine wpf_seq_region ?_
     refine wpo_move (v := .slice (some ⟨B, 0, none⟩) ms.length cap) e309 rfl ?_
     refine wpo_move (v := .int .i64 (check1 (tabT ms) q)) e313 rfl ?_
     refine wpo_assign (v := .slice (some ⟨B, 0, none⟩) ms.length cap) rfl rfl ?_
     refine wpo_assign (v := .int .i64 (check1 (tabT ms) q)) rfl rfl ?_
     refine wpo_nil ?_
     refine wpf_ret ?_
     have hf : doCall (tabT ms) q = (tabT (ms.set (q.run - 1).toNat (⟨⟨(mAt ms ((q.run - 1).toNat)).t.kind, ((mAt ms ((q.run - 1).toNat)).t.lab), (mAt ms ((q.run - 1).toNat)).t.ve, check1 (tabT ms) q, (mAt ms ((q.run - 1).toNat)).t.slots, (mAt ms ((q.run - 1).toNat)).t.queue, (mAt ms ((q.run - 1).toNat)).t.to⟩, (mAt ms ((q.run - 1).toNat)).sa, (mAt ms ((q.run - 1).toNat)).sc, (mAt ms ((q.run - 1).toNat)).qa, (mAt ms ((q.run - 1).toNat)).qc⟩ : MTh)), check1 (tabT ms) q) := do_dead h330 h342 h490 rfl
     exact ⟨.tuple #[.slice (some ⟨B, 0, none⟩) ms.length cap, .int .i64 (check1 (tabT ms) q)], res2 rfl rfl rfl, ms.set (q.run - 1).toNat (⟨⟨(mAt ms ((q.run - 1).toNat)).t.kind, ((mAt ms ((q.run - 1).toNat)).t.lab), (mAt ms ((q.run - 1).toNat)).t.ve, check1 (tabT ms) q, (mAt ms ((q.run - 1).toNat)).t.slots, (mAt ms ((q.run - 1).toNat)).t.queue, (mAt ms ((q.run - 1).toNat)).t.to⟩, (mAt ms ((q.run - 1).toNat)).sa, (mAt ms ((q.run - 1).toNat)).sc, (mAt ms ((q.run - 1).toNat)).qa, (mAt ms ((q.run - 1).toNat)).qc⟩ : MTh), by rw [hf], by first | omega | (simp only [List.length_set, putT_len]; try omega), hO535, hRO539, by rw [hf], hb538⟩
theorem gf_111 : goFn Try.prog 111 = true := by kernel_rfl
theorem gf_112 : goFn Try.prog 112 = true := by kernel_rfl
theorem gf_113 : goFn Try.prog 113 = true := by kernel_rfl
theorem l72Calls_c (p : Int) (hp : 0 ≤ p ∧ p ≤ 999999970000) (lo R : Nat) (bs : List Int) (a : Option Addr) (c : Nat) (w : World) (hR : Blk w R 121 #[.slice a bs.length c, .int .i64 p]) (hlo : lo ≤ R) (hs : SlLt lo w a 1 (bs.map bcell)) (hb : ∀ b ∈ bs, 0 ≤ b ∧ b ≤ 255) (hn : bs.length ≤ 1048576) (ms : List MTh) (ta : Option Addr) (tc tlo : Nat) (hG : TabG tlo w ta ms) (hRl : R < tlo) (hlen : TabLen ms) (hmn : 1 ≤ ms.length ∧ ms.length ≤ 8) : CallsR Try.prog 96 #[.pointer (some ⟨R, 0, none⟩), .slice ta ms.length tc] w (fun v w' => ∃ (B cap : Nat) (cs : List Cl) (p' : Int), v = .slice (some ⟨B, 0, none⟩) cs.length cap ∧ Dw.Own w' B 76 5 cap cs.length (cs.flatMap Cl.cells) ∧ w.heap.size ≤ B ∧ cs.length ≤ 25 ∧ p ≤ p' ∧ p' ≤ p + 2000 ∧ Blk w' R 121 #[.slice a bs.length c, .int .i64 p'] ∧ w.grownBy w' (some R)) := by
 refine calls_of_wpf (n := 61) Try.func96 rfl Try.ntmps96 rfl ?_
 have hb0 := World.grownBy.refl w (some R)
 have hRlt := hR.lt
 have hTH := TabG.hi hG
 refine wpf_seq_region ?_
 refine wpo_assign (v := .slice none 0 0) rfl rfl ?_
 refine wpo_nil ?_
 refine wpf_seq_region ?_
 refine wpo_buildSlice (ps := []) (e := 76) (cs := (([] : List Cl).flatMap Cl.cells).toArray) parts_nil (fun _ => by kernel_rfl) rfl ?_
 intro B101 w102 hN103
 have hlB101 := hN_ge hN103 hb0
 have lt_R_B101 := hN_gtl hN103 (hR).lt
 have hb104 := low0 hb0 hN103.grw
 refine wpo_assign (v := .slice (some ⟨B101, 0, none⟩) 0 0) rfl rfl ?_
 refine wpo_nil ?_
 refine wpf_seq ?_
 refine wpf_seq_region ?_
 refine wpo_move (v := .slice ta ms.length tc) rfl rfl ?_
 refine wpo_call (vs := [.slice ta ms.length tc]) gf_34 (args_cons rfl args_nil) rfl (sTableOk_c  _ ms _ _ (TabG.at (TabG.low hG hN103.grw)) hlen (by omega)) ?_
 rintro _ w105 ⟨rfl, hg106⟩
 have hb107 := low0 hb104 hg106
 refine wpo_not (b' := !tableOk (tabT ms)) rfl rfl rfl ?_
 refine wpo_nil ?_
 refine wpf_cond rfl (fun h108 => ?_) (fun h108 => ?_)
 ·
  have h109 := nt_t h108
  refine wpf_seq_region ?_
  refine wpo_move (v := .pointer (some ⟨R, 0, none⟩)) rfl rfl ?_
  refine wpo_move (v := .slice ta ms.length tc) rfl rfl ?_
  have k110 := ((hR.grown0 hN103.grw).grown0 hg106)
  refine wpo_call (vs := [.pointer (some ⟨R, 0, none⟩), .slice ta ms.length tc]) gf_111 (args_cons rfl (args_cons rfl args_nil)) rfl (l71Call_c p (by omega) _ R bs _ _ _ k110 (by omega) (SlLt.low1 hs hb107 hlo) (by first | exact hb | exact fun b h => hb b (List.mem_of_mem_take h)) (by first | omega | (rw [List.length_take]; omega)) ms _ _ _ (TabG.low (TabG.low hG hN103.grw) hg106) (by omega) hlen (by omega)) ?_
  rintro _ w117 ⟨q111, p112, rfl, hq118, hp113, hp114, kR115, hg116⟩
  have hb119 := grown_trans hb107 hg116
  refine wpo_buildSlice (ps := [(0, .agg #[.int .i64 q111.kind, .int .i64 q111.run, .int .i64 q111.a, .int .i64 q111.b, .int .i64 q111.n])]) (e := 76) (cs := (([q111] : List Cl).flatMap Cl.cells).toArray) (parts_cons rfl parts_nil) (fun _ => by kernel_rfl) rfl ?_
  intro B120 w121 hN122
  have hlB120 := hN_ge hN122 hb119
  have lt_R_B120 := hN_gtl hN122 (kR115).lt
  have k123 := ((hN103.blk.grown0 hg106).grown hg116 (some_ne (by omega)))
  have lt_B101_B120 := hN_gtl hN122 (k123).lt
  have hb124 := low0 hb119 hN122.grw
  refine wpo_assign (v := .slice (some ⟨B120, 0, none⟩) 1 1) rfl rfl ?_
  refine wpo_nil ?_
  refine wpf_ret ?_
  refine thn_r ?_
  have k125 := (kR115.grown0 hN122.grw)
  refine ⟨.slice (some ⟨B120, 0, none⟩) 1 1, res1 rfl rfl, B120, (([q111] : List Cl).length), ([q111] : List Cl), p112, rfl, (Own.rows wide_cl hN122.blk (by simp)), hlB120, by first | omega | (simp only [List.length_append, List.length_cons, List.length_nil]; omega), by omega, by omega, k125, hb124⟩
 ·
  have h126 := nt_f h108
  refine wpf_skip ?_
  refine thn_n ?_
  refine wpf_seq_region ?_
  refine wpo_move (v := .slice ta ms.length tc) rfl rfl ?_
  have k127 := ((hR.grown0 hN103.grw).grown0 hg106)
  have k128 := (hN103.blk.grown0 hg106)
  refine wpo_call (vs := [.slice ta ms.length tc]) gf_112 (args_cons rfl args_nil) rfl (l3Copy_c _ ms _ _ (TabG.at (TabG.low (TabG.low hG hN103.grw) hg106)) hlen (by omega)) ?_
  rintro _ w137 ⟨B129, cap130, ys131, rfl, he132, hge133, hO134, hRO135, hg136⟩
  have hb140 := low0 hb107 hg136
  have hlB129 := Nat.le_trans hb107.size hge133
  have lt_R_B129 := Nat.lt_of_lt_of_le (k127).lt hge133
  have lt_B101_B129 := Nat.lt_of_lt_of_le (k128).lt hge133
  have hRO141 := RowsO.mono hRO135 hb107.size
  have hTL138 := TabLen.of he132 hlen
  have hll139 := tabT_length he132
  have hT142 : tableOk (tabT ys131) = true := by rw [he132]; exact h126
  refine wpo_assign (v := .slice (some ⟨B129, 0, none⟩) ys131.length cap130) rfl rfl ?_
  refine wpo_nil ?_
  refine wpf_seq ?_
  refine wpf_seq_region ?_
  refine wpo_move (v := .pointer (some ⟨R, 0, none⟩)) rfl rfl ?_
  have k143 := (k127.grown0 hg136)
  refine wpo_call (vs := [.pointer (some ⟨R, 0, none⟩), .int .i64 24]) gf_60 (args_cons rfl (args_cons rfl args_nil)) rfl (pick_c p 24 (by omega) _ R bs _ _ _ k143 (by omega) (SlLt.low1 hs hb140 hlo) (by first | exact hb | exact fun b h => hb b (List.mem_of_mem_take h)) (by first | omega | (rw [List.length_take]; omega))) ?_
  rintro _ w149 ⟨k144, rfl, hk145, hk146, kR147, hg148⟩
  have hb150 := grown_trans hb140 hg148
  refine wpo_assign (v := .int .i64 k144) rfl rfl ?_
  refine wpo_nil ?_
  refine wpf_block ?_
  have hRO151 := (RowsO.lt hRO141 hg148 (by omega))
  have k152 := ((k128.grown0 hg136).grown hg148 (some_ne (by omega)))
  have k153 := (hO134.grown hg148 (some_ne (by omega)))
  refine wpf_loopN (fun mm f' w' => ∃ (n : Int) (p1 : Int) (Bq : Nat) (cq : Nat) (cs : List Cl) (xs : List MTh), mm = n.toNat ∧ (0 ≤ n ∧ n ≤ 24) ∧ (p ≤ p1 ∧ p1 ≤ p + 1600 - 61 * n) ∧ (cs.length : Int) ≤ 24 - n ∧ RowsO 29 3 w.heap.size w' xs ∧ tableOk (tabT xs) = true ∧ TabLen xs ∧ Dw.Own w' Bq 76 5 cq cs.length (cs.flatMap Cl.cells) ∧ w.heap.size ≤ Bq ∧ R ≠ Bq ∧ B129 ≠ Bq ∧ f' 5 = .slice (some ⟨Bq, 0, none⟩) cs.length cq ∧ f' 6 = .slice (some ⟨B129, 0, none⟩) xs.length cap130 ∧ f' 7 = .int .i64 n ∧ f' 0 = .pointer (some ⟨R, 0, none⟩) ∧ f' 4 = .slice none 0 0 ∧ w.grownBy w' (some R) ∧ Dw.Own w' B129 45 8 cap130 xs.length (xs.flatMap MTh.cells) ∧ Blk w' R 121 #[.slice a bs.length c, .int .i64 p1]) (k144.toNat) ⟨k144, (p + 1), B101, 0, ([] : List Cl), ys131, rfl, (by omega), (by omega), (by simp only [List.length_nil]; omega), hRO151, hT142, hTL138, (Own.rows wide_cl k152 (by simp)), hlB101, (by omega), (by omega), rfl, rfl, rfl, rfl, rfl, hb150, k153, kR147⟩ ?_
  rintro mm f154 w155 ⟨n, p1, Bq, cq, cs, xs, hm157, hnn, hpp, hcl, hRO, hTx, hTLx, hOwn, hlBq, hne0, hne1, e158, e159, e160, e161, e162, hb156, k163, k164⟩
  have hmlx := tab_len hTx
  refine wpf_seq ?_
  refine wpf_seq_region ?_
  refine wpo_move (v := .int .i64 n) e160 rfl ?_
  refine wpo_gtr (q := decide (0 < n)) rfl rfl rfl rfl ?_
  refine wpo_nil ?_
  refine wpf_cond rfl (fun h165 => ?_) (fun h165 => ?_)
  ·
   have h166 := of_decide_eq_true h165
   refine wpf_skip ?_
   refine thn_n ?_
   refine wpf_seq ?_
   refine wpf_block ?_
   refine wpf_seq_region ?_
   refine wpo_move (v := .pointer (some ⟨R, 0, none⟩)) e161 rfl ?_
   refine wpo_move (v := .slice (some ⟨B129, 0, none⟩) xs.length cap130) e159 rfl ?_
   refine wpo_call (vs := [.pointer (some ⟨R, 0, none⟩), .slice (some ⟨B129, 0, none⟩) xs.length cap130]) gf_111 (args_cons rfl (args_cons rfl args_nil)) rfl (l71Call_c p1 (by omega) _ R bs _ _ _ k164 (by omega) (SlLt.low1 hs hb156 hlo) (by first | exact hb | exact fun b h => hb b (List.mem_of_mem_take h)) (by first | omega | (rw [List.length_take]; omega)) xs _ _ _ (RowsO.tabG hRO k163 hlB129) (by omega) hTLx (by omega)) ?_
   rintro _ w173 ⟨q167, p168, rfl, hq174, hp169, hp170, kR171, hg172⟩
   have hb175 := grown_trans hb156 hg172
   refine wpo_alloc (cs := #[.int .i64 0, .int .i64 0, .int .i64 0, .int .i64 0, .int .i64 0]) zt_76 rfl rfl ?_
   intro B176 w177 hN178
   have hlB176 := hN_ge hN178 hb175
   have k179 := (k163.grown hg172 (some_ne (by omega)))
   have lt_B129_B176 := hN_gtl hN178 (k179).lt
   have lt_R_B176 := hN_gtl hN178 (kR171).lt
   have k180 := (hOwn.grown hg172 (some_ne (by omega)))
   have lt_Bq_B176 := hN_gtl hN178 (k180).lt
   have hb181 := low0 hb175 hN178.grw
   refine wpo_storen (vs := [.int .i64 q167.kind, .int .i64 q167.run, .int .i64 q167.a, .int .i64 q167.b, .int .i64 q167.n]) (cs' := #[.int .i64 q167.kind, .int .i64 q167.run, .int .i64 q167.a, .int .i64 q167.b, .int .i64 q167.n]) rt_76 rfl rfl rfl (by simp [Value.oneCell']) hN178.blk (Nat.le_of_ble_eq_true rfl) rfl ?_
   intro w182 hS183
   have hb184 := low1 hb181 hS183.grw (by omega)
   refine wpo_nil ?_
   refine wpf_seq_region_mid (fun f' w' => (f' 0 = .pointer (some ⟨R, 0, none⟩) ∧ f' 4 = .slice none 0 0 ∧ f' 5 = .slice (some ⟨Bq, 0, none⟩) cs.length cq ∧ f' 6 = .slice (some ⟨B129, 0, none⟩) xs.length cap130 ∧ f' 7 = .int .i64 n ∧ f' 8 = .pointer (some ⟨B176, 0, none⟩) ∧ f' 37 = .bool (callOk q167 && kindAt (tabT xs) q167.run 3)) ∧ w182.grownBy w' none) ?_ ?_
   ·
    refine wpo_loadn (vs := [.int .i64 q167.kind, .int .i64 q167.run, .int .i64 q167.a, .int .i64 q167.b, .int .i64 q167.n]) rt_76 rfl rfl (hS183.blk.rangeL 0 5 rfl) rfl ?_
    refine wpo_call (vs := [.agg #[.int .i64 q167.kind, .int .i64 q167.run, .int .i64 q167.a, .int .i64 q167.b, .int .i64 q167.n]]) gf_108 (args_cons rfl args_nil) rfl (sCallOk_c q167 _) ?_
    rintro _ w197 ⟨rfl, hg198⟩
    have hb199 := low0 hb184 hg198
    refine wpo_move (v := .bool (callOk q167)) rfl rfl ?_
    rcases bcases (callOk q167) with h200 | h200
    ·
     have hco201 := callOk_iff h200
     refine wpo_run rfl rfl rfl h200 ?_
     refine wpo_move (v := .slice (some ⟨B129, 0, none⟩) xs.length cap130) e159 rfl ?_
     refine wpo_run rfl rfl rfl h200 ?_
     refine wpo_fieldAddr (o' := 1) fo_76_1 rfl rfl rfl ?_
     refine wpo_run rfl rfl rfl h200 ?_
     have k202 := (hS183.blk.grown0 hg198)
     refine wpo_load1 (v := .int .i64 q167.run) ot_3 rfl (k202.cell rfl) rfl ?_
     refine wpo_run rfl rfl rfl h200 ?_
     have hRO203 := (RowsO.low (RowsO.typB (RowsO.low (RowsO.lt hRO hg172 (by omega)) hN178.grw) hS183.grw hN178.blk (by decide) (by decide)) hg198)
     have k204 := (((k179.grown0 hN178.grw).grown hS183.grw (some_ne (by omega))).grown0 hg198)
     refine wpo_call (vs := [.slice (some ⟨B129, 0, none⟩) xs.length cap130, .int .i64 q167.run]) gf_109 (args_cons rfl (args_cons rfl args_nil)) rfl (l11Run_c q167.run (by omega) _ xs _ _ (RowsO.tab hRO203 k204) hTLx (by omega)) ?_
     rintro _ w205 ⟨rfl, hg206⟩
     have hb207 := low0 hb199 hg206
     refine wpo_pickt (v := .bool (kindAt (tabT xs) q167.run 3)) rfl h200 rfl rfl ?_
     exact wpo_nil ⟨⟨e161, e162, e158, e159, e160, rfl, (congrArg Value.bool (by first | (simp only [h108, h126, h165, h200, hT142, hTx, b0, b1, b2, b3, b4, b5, b6, b7, b8, b9]; done) | simp [h108, h126, h165, h200, hT142, hTx]))⟩, (grown_trans hg198 hg206)⟩
    ·
     iterate 4 refine wpo_pass rfl rfl rfl h200 rfl ?_
     refine wpo_pickf (v := .bool false) rfl h200 rfl rfl ?_
     exact wpo_nil ⟨⟨e161, e162, e158, e159, e160, rfl, (congrArg Value.bool (by first | (simp only [h108, h126, h165, h200, hT142, hTx, b0, b1, b2, b3, b4, b5, b6, b7, b8, b9]; done) | simp [h108, h126, h165, h200, hT142, hTx]))⟩, hg198⟩
   ·
    rintro f208 w209 ⟨⟨e210, e211, e212, e213, e214, e215, e216⟩, hg217⟩
    have hb218 := low0 hb184 hg217
    refine wpf_cond e216 (fun h219 => ?_) (fun h219 => ?_)
    ·
     have h220 := and_l h219
     have hco221 := callOk_iff h220
     have h222 := and_r h219
     refine wpf_seq_region ?_
     refine wpo_move (v := .slice (some ⟨B129, 0, none⟩) xs.length cap130) e213 rfl ?_
     have k223 := (hS183.blk.grown0 hg217)
     refine wpo_loadn (vs := [.int .i64 q167.kind, .int .i64 q167.run, .int .i64 q167.a, .int .i64 q167.b, .int .i64 q167.n]) rt_76 e215 rfl (k223.rangeL 0 5 rfl) rfl ?_
     have k224 := (((k179.grown0 hN178.grw).grown hS183.grw (some_ne (by omega))).grown0 hg217)
     have k225 := (((kR171.grown0 hN178.grw).grown hS183.grw (some_ne (by omega))).grown0 hg217)
     have k226 := (((k180.grown0 hN178.grw).grown hS183.grw (some_ne (by omega))).grown0 hg217)
     have hRO227 := (RowsO.low (RowsO.typB (RowsO.low (RowsO.lt hRO hg172 (by omega)) hN178.grw) hS183.grw hN178.blk (by decide) (by decide)) hg217)
     have hp228 := callPoss_of (q := q167) hTx h220 h222
     have hlt229 := (k224).lt
     have hlt230 := (k225).lt
     have hlt231 := (k226).lt
     have hlt232 := (k223).lt
     refine wpo_call (vs := [.slice (some ⟨B129, 0, none⟩) xs.length cap130, .agg #[.int .i64 q167.kind, .int .i64 q167.run, .int .i64 q167.a, .int .i64 q167.b, .int .i64 q167.n]]) gf_113 (args_cons rfl (args_cons rfl args_nil)) rfl (l12Do_c q167 w.heap.size B129 cap130 xs _ k224 hRO227 hlB129 hp228) ?_
     rintro _ w239 ⟨ms233, rfl, hl234, hO235, hRO236, htab237, hK238⟩
     have hb240 := KeepsI.grown hb218 hK238 (by omega)
     have hT241 : tableOk (tabT ms233) = true := by rw [htab237]; exact (doCall_ok hp228).1
     have hTL242 := TabLen.ok hT241
     refine wpo_move (v := .tuple #[.slice (some ⟨B129, 0, none⟩) ms233.length cap130, .int .i64 ((doCall (tabT xs) q167).2)]) (congrArg (fun n : Nat => Value.tuple #[.slice (some ⟨B129, 0, none⟩) n cap130, .int .i64 ((doCall (tabT xs) q167).2)]) hl234.symm) rfl ?_
     refine wpo_extract (v := .slice (some ⟨B129, 0, none⟩) ms233.length cap130) rfl rfl rfl ?_
     refine wpo_extract (v := .int .i64 ((doCall (tabT xs) q167).2)) rfl rfl rfl ?_
     refine wpo_assign (v := .slice (some ⟨B129, 0, none⟩) ms233.length cap130) rfl rfl ?_
     refine wpo_assign (v := .int .i64 ((doCall (tabT xs) q167).2)) rfl rfl ?_
     refine wpo_nil ?_
     refine wpf_seq_region ?_
     refine wpo_move (v := .slice (some ⟨B129, 0, none⟩) ms233.length cap130) rfl rfl ?_
     refine wpo_assign (v := .slice (some ⟨B129, 0, none⟩) ms233.length cap130) rfl rfl ?_
     refine wpo_nil ?_
     refine wpf_region ?_
     refine wpo_move (v := .slice (some ⟨Bq, 0, none⟩) cs.length cq) e212 rfl ?_
     have k243 := (Blk.keepsI k223 hK238 (Or.inr (Or.inr (by decide))))
     refine wpo_loadn (vs := [.int .i64 q167.kind, .int .i64 q167.run, .int .i64 q167.a, .int .i64 q167.b, .int .i64 q167.n]) rt_76 e215 rfl (k243.rangeL 0 5 rfl) rfl ?_
     refine wpo_buildSlice (ps := [(0, .agg #[.int .i64 q167.kind, .int .i64 q167.run, .int .i64 q167.a, .int .i64 q167.b, .int .i64 q167.n])]) (e := 76) (cs := (([q167] : List Cl).flatMap Cl.cells).toArray) (parts_cons rfl parts_nil) (fun _ => by kernel_rfl) rfl ?_
     intro B244 w245 hN246
     have hlB244 := hN_ge hN246 hb240
     have lt_B129_B244 := hN_gtl hN246 (hO235).lt
     have k247 := (Blk.keepsI k225 hK238 (Or.inr (Or.inr (by decide))))
     have lt_R_B244 := hN_gtl hN246 (k247).lt
     have k248 := (Own.keepsI k226 hK238 (Or.inr (Or.inr (by decide))))
     have lt_Bq_B244 := hN_gtl hN246 (k248).lt
     have lt_B176_B244 := hN_gtl hN246 (k243).lt
     have hb249 := low0 hb240 hN246.grw
     have k250 := (k248.grown0 hN246.grw)
     have k251 := (hO235.grown0 hN246.grw)
     have k252 := (k247.grown0 hN246.grw)
     have k253 := (k243.grown0 hN246.grw)
     refine wpo_append (g := Cl.cells) (ys := cs) (zs := ([q167] : List Cl)) mk_69 rfl wide_cl (by omega) onec_cl rfl rfl k250 (rows_sl wide_cl hN246.blk) (by simp only [List.length_cons, List.length_nil]; omega) (by omega) rfl ?_
     intro B254 cap255 w256 hO257 hg258 hor259
     have hlB254 : w.heap.size ≤ B254 := by rcases hor259 with h | h; (rw [h]; exact hlBq); (rw [h]; exact hb249.size)
     have ne_B129_B254 : B129 ≠ B254 := by have h := (k251).lt; omega
     have ne_R_B254 : R ≠ B254 := by have h := (k252).lt; omega
     have ne_B176_B254 : B176 ≠ B254 := by have h := (k253).lt; omega
     have ne_B244_B254 : B244 ≠ B254 := by have h := (hN246.blk).lt; omega
     have hb260 := low1 hb249 hg258 (by omega)
     refine wpo_assign (v := .slice (some ⟨B254, 0, none⟩) ((cs ++ ([q167] : List Cl)).length) cap255) rfl rfl ?_
     refine wpo_nil ?_
     refine blk_n ?_
     refine thn_n ?_
     refine wpf_region ?_
     refine wpo_move (v := .int .i64 n) e214 rfl ?_
     refine wpo_sub (c := n - 1) rfl rfl (by omega) (by omega) (by omega) rfl ?_
     refine wpo_assign (v := .int .i64 (n - 1)) rfl rfl ?_
     refine wpo_nil ?_
     refine thn_n ?_
     have hRO261 := (RowsO.own (RowsO.low hRO236 hN246.grw) hg258 k250 (by decide) (by decide))
     have k262 := (k251.grown hg258 (some_ne (by omega)))
     have k263 := (k252.grown hg258 (some_ne (by omega)))
     exact ⟨(n - 1).toNat, by omega, (n - 1), p168, B254, cap255, (cs ++ ([q167] : List Cl)), ms233, rfl, (by omega), (by omega), (by first | omega | (simp only [List.length_append, List.length_cons, List.length_nil]; omega)), hRO261, hT241, hTL242, hO257, hlB254, (by omega), (by omega), rfl, rfl, rfl, e210, e211, hb260, k262, k263⟩
    ·
     refine wpf_skip ?_
     refine blk_n ?_
     refine thn_n ?_
     refine wpf_region ?_
     refine wpo_move (v := .int .i64 n) e214 rfl ?_
     refine wpo_sub (c := n - 1) rfl rfl (by omega) (by omega) (by omega) rfl ?_
     refine wpo_assign (v := .int .i64 (n - 1)) rfl rfl ?_
     refine wpo_nil ?_
     refine thn_n ?_
     have hRO264 := (RowsO.low (RowsO.typB (RowsO.low (RowsO.lt hRO hg172 (by omega)) hN178.grw) hS183.grw hN178.blk (by decide) (by decide)) hg217)
     have k265 := (((k179.grown0 hN178.grw).grown hS183.grw (some_ne (by omega))).grown0 hg217)
     have k266 := (((k180.grown0 hN178.grw).grown hS183.grw (some_ne (by omega))).grown0 hg217)
     have k267 := (((kR171.grown0 hN178.grw).grown hS183.grw (some_ne (by omega))).grown0 hg217)
     exact ⟨(n - 1).toNat, by omega, (n - 1), p168, Bq, cq, cs, xs, rfl, (by omega), (by omega), (by first | omega | (simp only [List.length_append, List.length_cons, List.length_nil]; omega)), hRO264, hTx, hTLx, k266, hlBq, (by omega), (by omega), e212, e213, rfl, e210, e211, hb218, k265, k267⟩
  ·
   have h268 := of_decide_eq_false h165
   refine wpf_exit ?_
   refine thn_e ?_
   refine thn_e ?_
   refine blk_e ?_
   refine thn_n ?_
   refine wpf_seq ?_
   refine wpf_seq_region ?_
   refine wpo_move (v := .pointer (some ⟨R, 0, none⟩)) e161 rfl ?_
   refine wpo_call (vs := [.pointer (some ⟨R, 0, none⟩), .int .i64 30]) gf_60 (args_cons rfl (args_cons rfl args_nil)) rfl (pick_c p1 30 (by omega) _ R bs _ _ _ k164 (by omega) (SlLt.low1 hs hb156 hlo) (by first | exact hb | exact fun b h => hb b (List.mem_of_mem_take h)) (by first | omega | (rw [List.length_take]; omega))) ?_
   rintro _ w274 ⟨k269, rfl, hk270, hk271, kR272, hg273⟩
   have hb275 := grown_trans hb156 hg273
   refine wpo_eql (q := decide (k269 = 0)) rfl rfl rfl rfl ?_
   refine wpo_nil ?_
   refine wpf_cond rfl (fun h276 => ?_) (fun h276 => ?_)
   ·
    have h277 := of_decide_eq_true h276
    refine wpf_seq_region ?_
    refine wpo_move (v := .slice (some ⟨Bq, 0, none⟩) cs.length cq) e158 rfl ?_
    refine wpo_move (v := .pointer (some ⟨R, 0, none⟩)) e161 rfl ?_
    refine wpo_call (vs := [.pointer (some ⟨R, 0, none⟩), .int .i64 11]) gf_60 (args_cons rfl (args_cons rfl args_nil)) rfl (pick_c (p1 + 1) 11 (by omega) _ R bs _ _ _ kR272 (by omega) (SlLt.low1 hs hb275 hlo) (by first | exact hb | exact fun b h => hb b (List.mem_of_mem_take h)) (by first | omega | (rw [List.length_take]; omega))) ?_
    rintro _ w283 ⟨k278, rfl, hk279, hk280, kR281, hg282⟩
    have hb284 := grown_trans hb275 hg282
    refine wpo_move (v := .pointer (some ⟨R, 0, none⟩)) e161 rfl ?_
    refine wpo_call (vs := [.pointer (some ⟨R, 0, none⟩), .int .i64 9]) gf_60 (args_cons rfl (args_cons rfl args_nil)) rfl (pick_c (p1 + 1 + 1) 9 (by omega) _ R bs _ _ _ kR281 (by omega) (SlLt.low1 hs hb284 hlo) (by first | exact hb | exact fun b h => hb b (List.mem_of_mem_take h)) (by first | omega | (rw [List.length_take]; omega))) ?_
    rintro _ w290 ⟨k285, rfl, hk286, hk287, kR288, hg289⟩
    have hb291 := grown_trans hb284 hg289
    refine wpo_build (ps := [(0, .int .i64 k278), (1, .int .i64 k285)]) (v := .agg #[.int .i64 k278, .int .i64 k285, .int .i64 0, .int .i64 0, .int .i64 0]) (parts_cons rfl (parts_cons rfl parts_nil)) (by kernel_rfl) rfl ?_
    refine wpo_buildSlice (ps := [(0, .agg #[.int .i64 k278, .int .i64 k285, .int .i64 0, .int .i64 0, .int .i64 0])]) (e := 76) (cs := (([⟨k278, k285, 0, 0, 0⟩] : List Cl).flatMap Cl.cells).toArray) (parts_cons rfl parts_nil) (fun _ => by kernel_rfl) rfl ?_
    intro B292 w293 hN294
    have hlB292 := hN_ge hN294 hb291
    have k295 := (((k163.grown hg273 (some_ne (by omega))).grown hg282 (some_ne (by omega))).grown hg289 (some_ne (by omega)))
    have lt_B129_B292 := hN_gtl hN294 (k295).lt
    have lt_R_B292 := hN_gtl hN294 (kR288).lt
    have k296 := (((hOwn.grown hg273 (some_ne (by omega))).grown hg282 (some_ne (by omega))).grown hg289 (some_ne (by omega)))
    have lt_Bq_B292 := hN_gtl hN294 (k296).lt
    have hb297 := low0 hb291 hN294.grw
    have k298 := (k296.grown0 hN294.grw)
    have k299 := (k295.grown0 hN294.grw)
    have k300 := (kR288.grown0 hN294.grw)
    refine wpo_append (g := Cl.cells) (ys := cs) (zs := ([⟨k278, k285, 0, 0, 0⟩] : List Cl)) mk_69 rfl wide_cl (by omega) onec_cl rfl rfl k298 (rows_sl wide_cl hN294.blk) (by simp only [List.length_cons, List.length_nil]; omega) (by omega) rfl ?_
    intro B301 cap302 w303 hO304 hg305 hor306
    have hlB301 : w.heap.size ≤ B301 := by rcases hor306 with h | h; (rw [h]; exact hlBq); (rw [h]; exact hb297.size)
    have ne_B129_B301 : B129 ≠ B301 := by have h := (k299).lt; omega
    have ne_R_B301 : R ≠ B301 := by have h := (k300).lt; omega
    have ne_B292_B301 : B292 ≠ B301 := by have h := (hN294.blk).lt; omega
    have hb307 := low1 hb297 hg305 (by omega)
    refine wpo_assign (v := .slice (some ⟨B301, 0, none⟩) ((cs ++ ([⟨k278, k285, 0, 0, 0⟩] : List Cl)).length) cap302) rfl rfl ?_
    refine wpo_nil ?_
    refine wpf_ret ?_
    refine thn_r ?_
    have k308 := (k300.grown hg305 (some_ne (by omega)))
    refine ⟨.slice (some ⟨B301, 0, none⟩) ((cs ++ ([⟨k278, k285, 0, 0, 0⟩] : List Cl)).length) cap302, res1 rfl rfl, B301, cap302, (cs ++ ([⟨k278, k285, 0, 0, 0⟩] : List Cl)), (p1 + 1 + 1 + 1), rfl, hO304, hlB301, by first | omega | (simp only [List.length_append, List.length_cons, List.length_nil]; omega), by omega, by omega, k308, hb307⟩
   ·
    have h309 := of_decide_eq_false h276
    refine wpf_skip ?_
    refine thn_n ?_
    refine wpf_seq_region ?_
    refine wpo_move (v := .slice (some ⟨Bq, 0, none⟩) cs.length cq) e158 rfl ?_
    refine wpo_assign (v := .slice (some ⟨Bq, 0, none⟩) cs.length cq) rfl rfl ?_
    refine wpo_nil ?_
    refine wpf_ret ?_
    have k310 := (hOwn.grown hg273 (some_ne (by omega)))
    refine ⟨.slice (some ⟨Bq, 0, none⟩) cs.length cq, res1 rfl rfl, Bq, cq, cs, (p1 + 1), rfl, k310, hlBq, by first | omega | (simp only [List.length_append, List.length_cons, List.length_nil]; omega), by omega, by omega, kR272, hb275⟩
theorem gf_51 : goFn Try.prog 51 = true := by kernel_rfl
theorem gf_96 : goFn Try.prog 96 = true := by kernel_rfl
theorem gf_97 : goFn Try.prog 97 = true := by kernel_rfl
theorem eqV_76 (a b : Cl) (w : World) : (binOp .eql 76 (.agg a.cells.toArray) (.agg b.cells.toArray)).run Try.prog w = .ok (.bool (decide (a = b))) w := by
  have h := run_equalIn_struct (P := Try.prog) w 9999 76 a.cells.toArray b.cells.toArray (by kernel_rfl) (by kernel_rfl)
  obtain ⟨a0, a1, a2, a3, a4⟩ := a
  obtain ⟨b0, b1, b2, b3, b4⟩ := b
  simp only [binOp, Op.equal, Op.maxDepth, Sem.run_bind, Cl.cells] at h ⊢
  rw [h]
  simp [go_sem]
  (repeat' split) <;> simp_all
theorem neG_76 (x y : Operand) (a b : Cl) (w : World) : (eqGuard .neq 76 x y (.agg a.cells.toArray) (.agg b.cells.toArray)).run Try.prog w = .ok () w := by kernel_rfl
theorem neV_76 (a b : Cl) (w : World) : (binOp .neq 76 (.agg a.cells.toArray) (.agg b.cells.toArray)).run Try.prog w = .ok (.bool (!decide (a = b))) w := by
  have h := eqV_76 a b w
  have h2 := run_equalIn_struct (P := Try.prog) w 9999 76 a.cells.toArray b.cells.toArray (by kernel_rfl) (by kernel_rfl)
  obtain ⟨a0, a1, a2, a3, a4⟩ := a
  obtain ⟨b0, b1, b2, b3, b4⟩ := b
  simp only [binOp, Op.equal, Op.maxDepth, Sem.run_bind, Cl.cells] at h h2 ⊢
  rw [h2] at h ⊢
  revert h
  simp [go_sem]
  (repeat' split) <;> simp_all
theorem DrawRunLow_c (bs : List Int) (a : Option Addr) (c : Nat) (w : World) (hs0 : SlAt w a 1 (bs.map bcell)) (hb : ∀ b ∈ bs, 0 ≤ b ∧ b ≤ 255) (hn : bs.length ≤ 1048576) (hc : bs.length ≤ c) : CallsR Try.prog 51 #[.slice a bs.length c] w (fun v w' => ∃ (B cap : Nat) (ms : List MTh) (Q qc : Nat) (cs : List Cl) (l : Lab), v = .tuple #[.slice (some ⟨B, 0, none⟩) ms.length cap, .slice (some ⟨Q, 0, none⟩) cs.length qc, .agg #[.int .i64 l.s, .int .i64 l.v]] ∧ TabG w.heap.size w' (some ⟨B, 0, none⟩) ms ∧ Small ms ∧ (3 ≤ ms.length ∧ ms.length ≤ 8) ∧ Dw.Own w' Q 76 5 qc cs.length (cs.flatMap Cl.cells) ∧ w.heap.size ≤ Q ∧ cs.length ≤ 25 ∧ (-1 ≤ l.s ∧ l.s ≤ 4 ∧ 0 ≤ l.v ∧ l.v ≤ 3) ∧ w.grownBy w' none) := by
 refine calls_of_wpf (n := 19) Try.func51 rfl Try.ntmps51 rfl ?_
 have hb0 := World.grownBy.refl w none
 have hs := SlAt.lt wide_b (by omega) hs0
 refine wpf_seq_region ?_
 refine wpo_assign (v := .slice none 0 0) rfl rfl ?_
 refine wpo_assign (v := .slice none 0 0) rfl rfl ?_
 refine wpo_alloc (cs := #[.int .i64 0, .int .i64 0]) zt_40 rfl rfl ?_
 intro B101 w102 hN103
 have hlB101 := hN_ge hN103 hb0
 have hb104 := low0 hb0 hN103.grw
 refine wpo_nil ?_
 refine wpf_seq_region ?_
 refine wpo_move (v := .slice a bs.length c) rfl rfl ?_
 refine wpo_call (vs := [.slice a bs.length c]) gf_59 (args_cons rfl args_nil) rfl (l6Open_c bs a c _ (by omega) (by omega)) ?_
 rintro _ w109 ⟨R105, rfl, hge106, kR107, hg108⟩
 have hb110 := low0 hb104 hg108
 have hlR105 := Nat.le_trans hb104.size hge106
 have lt_B101_R105 := Nat.lt_of_lt_of_le (hN103.blk).lt hge106
 refine wpo_assign (v := .pointer (some ⟨R105, 0, none⟩)) rfl rfl ?_
 refine wpo_nil ?_
 refine wpf_seq_region ?_
 refine wpo_move (v := .pointer (some ⟨R105, 0, none⟩)) rfl rfl ?_
 have k112 := (hN103.blk.grown0 hg108)
 have hlt111 := (k112).lt
 have hlt113 := (kR107).lt
 refine wpo_call (vs := [.pointer (some ⟨R105, 0, none⟩)]) gf_82 (args_cons rfl args_nil) rfl (l71Fine_c 0 (by omega) _ R105 (bs.take 2000) _ _ _ kR107 (by omega) (SlLt.low0 (SlLt.take hs 2000) hb110) (by first | exact hb | exact fun b h => hb b (List.mem_of_mem_take h)) (by first | omega | (rw [List.length_take]; omega))) ?_
 rintro _ w125 ⟨B114, cap115, ms116, p117, rfl, hTG118, hTS119, hTn120, hp121, hp122, kR123, hg124⟩
 have hb126 := low1 hb110 hg124 (by omega)
 have hTl127 := hTS119.len
 refine wpo_assign (v := .slice (some ⟨B114, 0, none⟩) ms116.length cap115) rfl rfl ?_
 refine wpo_nil ?_
 refine wpf_seq_region ?_
 refine wpo_move (v := .pointer (some ⟨R105, 0, none⟩)) rfl rfl ?_
 refine wpo_move (v := .slice (some ⟨B114, 0, none⟩) ms116.length cap115) rfl rfl ?_
 have k128 := (k112.grown hg124 (some_ne (by omega)))
 refine wpo_call (vs := [.pointer (some ⟨R105, 0, none⟩), .slice (some ⟨B114, 0, none⟩) ms116.length cap115]) gf_96 (args_cons rfl (args_cons rfl args_nil)) rfl (l72Calls_c p117 (by omega) _ R105 (bs.take 2000) _ _ _ kR123 (by omega) (SlLt.low0 (SlLt.take hs 2000) hb126) (by first | exact hb | exact fun b h => hb b (List.mem_of_mem_take h)) (by first | omega | (rw [List.length_take]; omega)) ms116 _ _ _ hTG118 (by omega) hTl127 (by omega)) ?_
 rintro _ w140 ⟨B129, cap130, cs131, p132, rfl, hO133, hge134, hcl135, hp136, hp137, kR138, hg139⟩
 have hb141 := low1 hb126 hg139 (by omega)
 have hlB129 := Nat.le_trans hb126.size hge134
 have lt_B101_B129 := Nat.lt_of_lt_of_le (k128).lt hge134
 have lt_R105_B129 := Nat.lt_of_lt_of_le (kR123).lt hge134
 refine wpo_assign (v := .slice (some ⟨B129, 0, none⟩) cs131.length cap130) rfl rfl ?_
 refine wpo_nil ?_
 refine wpf_seq_region ?_
 refine wpo_move (v := .slice (some ⟨B114, 0, none⟩) ms116.length cap115) rfl rfl ?_
 refine wpo_move (v := .slice (some ⟨B129, 0, none⟩) cs131.length cap130) rfl rfl ?_
 refine wpo_move (v := .pointer (some ⟨R105, 0, none⟩)) rfl rfl ?_
 refine wpo_call (vs := [.pointer (some ⟨R105, 0, none⟩)]) gf_65 (args_cons rfl args_nil) rfl (l71Label_c p132 (by omega) _ R105 (bs.take 2000) _ _ _ kR138 (by omega) (SlLt.low0 (SlLt.take hs 2000) hb141) (by first | exact hb | exact fun b h => hb b (List.mem_of_mem_take h)) (by first | omega | (rw [List.length_take]; omega))) ?_
 rintro _ w152 ⟨l142, p143, rfl, hr144, hr145, hr146, hr147, hp148, hp149, kR150, hg151⟩
 have hb153 := low1 hb141 hg151 (by omega)
 refine wpo_assign (v := .slice (some ⟨B114, 0, none⟩) ms116.length cap115) rfl rfl ?_
 refine wpo_assign (v := .slice (some ⟨B129, 0, none⟩) cs131.length cap130) rfl rfl ?_
 have k154 := ((k128.grown hg139 (some_ne (by omega))).grown hg151 (some_ne (by omega)))
 refine wpo_storen (vs := [.int .i64 l142.s, .int .i64 l142.v]) (cs' := #[.int .i64 l142.s, .int .i64 l142.v]) rt_40 rfl rfl rfl (by simp [Value.oneCell']) k154 (Nat.le_of_ble_eq_true rfl) rfl ?_
 intro w155 hS156
 have hb157 := low1 hb153 hS156.grw (by omega)
 refine wpo_nil ?_
 refine wpf_ret ?_
 have hTG158 := (TabG.lt (TabG.lt (TabG.lt hTG118 hg139 (by omega)) hg151 (by omega)) hS156.grw (by omega))
 have k159 := ((hO133.grown hg151 (some_ne (by omega))).grown hS156.grw (some_ne (by omega)))
 refine ⟨.tuple #[.slice (some ⟨B114, 0, none⟩) ms116.length cap115, .slice (some ⟨B129, 0, none⟩) cs131.length cap130, .agg #[.int .i64 l142.s, .int .i64 l142.v]], resTTC rfl rfl rfl (resCell_mk (vs := [.int .i64 l142.s, .int .i64 l142.v]) rt_40 rfl rfl (hS156.blk.rangeL 0 2 rfl)), B114, cap115, ms116, B129, cap130, cs131, l142, rfl, (TabG.mono hTG158 hb110.size), hTS119, hTn120, k159, hlB129, by omega, by omega, hb157⟩
theorem labelOf_c (a b : Int) (ha : 0 ≤ a ∧ a ≤ 3) (hb : 0 ≤ b ∧ b ≤ 3) (w : World) : CallsR Try.prog 97 #[.int .u64 a, .int .u64 b] w (fun v w' => v = .agg #[.int .i64 a, .int .i64 b] ∧ w.grownBy w' none) := by
 refine calls_of_wpf (n := 10) Try.func97 rfl Try.ntmps97 rfl ?_
 have hb0 := World.grownBy.refl w none
 refine wpf_seq_region ?_
 refine wpo_alloc (cs := #[.int .i64 0, .int .i64 0]) zt_40 rfl rfl ?_
 intro B101 w102 hN103
 have hlB101 := hN_ge hN103 hb0
 have hb104 := low0 hb0 hN103.grw
 refine wpo_nil ?_
 refine wpf_seq_region ?_
 refine wpo_move (v := .int .u64 a) rfl rfl ?_
 refine wpo_conv (P := Try.prog) (k' := .i64) rfl (by kernel_rfl) (by kernel_rfl) (conv_i64 (by omega) (by omega)) rfl ?_
 refine wpo_move (v := .int .u64 b) rfl rfl ?_
 refine wpo_conv (P := Try.prog) (k' := .i64) rfl (by kernel_rfl) (by kernel_rfl) (conv_i64 (by omega) (by omega)) rfl ?_
 refine wpo_build (ps := [(0, .int .i64 a), (1, .int .i64 b)]) (v := .agg #[.int .i64 a, .int .i64 b]) (parts_cons rfl (parts_cons rfl parts_nil)) (by kernel_rfl) rfl ?_
 refine wpo_storen (vs := [.int .i64 a, .int .i64 b]) (cs' := #[.int .i64 a, .int .i64 b]) rt_40 rfl rfl rfl (by simp [Value.oneCell']) hN103.blk (Nat.le_of_ble_eq_true rfl) rfl ?_
 intro w105 hS106
 have hb107 := low1 hb104 hS106.grw (by omega)
 refine wpo_nil ?_
 refine wpf_ret ?_
 refine ⟨.agg #[.int .i64 a, .int .i64 b], resC rfl (resCell_mk (vs := [.int .i64 a, .int .i64 b]) rt_40 rfl rfl (hS106.blk.rangeL 0 2 rfl)), ?_, hb107⟩
 rfl
theorem LabelJoin_c (a b : Lab) (w : World) : CallsR Try.prog 52 #[.agg #[.int .i64 a.s, .int .i64 a.v], .agg #[.int .i64 b.s, .int .i64 b.v]] w (fun v w' => v = .agg #[.int .i64 (lJoin a b).s, .int .i64 (lJoin a b).v] ∧ w.grownBy w' none) := by
 refine calls_of_wpf (n := 35) Try.func52 rfl Try.ntmps52 rfl ?_
 have hb0 := World.grownBy.refl w none
 refine wpf_seq_region ?_
 refine wpo_box (v := .agg #[.int .i64 a.s, .int .i64 a.v]) (cs := #[.int .i64 a.s, .int .i64 a.v]) rfl rfl rfl ?_
 intro B101 w102 hN103
 have hlB101 := hN_ge hN103 hb0
 have hb104 := low0 hb0 hN103.grw
 refine wpo_box (v := .agg #[.int .i64 b.s, .int .i64 b.v]) (cs := #[.int .i64 b.s, .int .i64 b.v]) rfl rfl rfl ?_
 intro B105 w106 hN107
 have hlB105 := hN_ge hN107 hb104
 have lt_B101_B105 := hN_gtl hN107 (hN103.blk).lt
 have hb108 := low0 hb104 hN107.grw
 refine wpo_alloc (cs := #[.int .i64 0, .int .i64 0]) zt_40 rfl rfl ?_
 intro B109 w110 hN111
 have hlB109 := hN_ge hN111 hb108
 have k112 := (hN103.blk.grown0 hN107.grw)
 have lt_B101_B109 := hN_gtl hN111 (k112).lt
 have lt_B105_B109 := hN_gtl hN111 (hN107.blk).lt
 have hb113 := low0 hb108 hN111.grw
 refine wpo_nil ?_
 refine wpf_seq ?_
 refine wpf_seq_region_mid (fun f' w' => (f' 2 = .pointer (some ⟨B101, 0, none⟩) ∧ f' 3 = .pointer (some ⟨B105, 0, none⟩) ∧ f' 4 = .pointer (some ⟨B109, 0, none⟩) ∧ f' 16 = .bool ((!labelOk a) || (!labelOk b))) ∧ w110.grownBy w' none) ?_ ?_
 ·
  have k126 := (k112.grown0 hN111.grw)
  refine wpo_loadn (vs := [.int .i64 a.s, .int .i64 a.v]) rt_40 rfl rfl (k126.rangeL 0 2 rfl) rfl ?_
  refine wpo_call (vs := [.agg #[.int .i64 a.s, .int .i64 a.v]]) gf_70 (args_cons rfl args_nil) rfl (LabelOk_c a _) ?_
  rintro _ w127 ⟨rfl, hg128⟩
  have hb129 := low0 hb113 hg128
  refine wpo_not (b' := !labelOk a) rfl rfl rfl ?_
  refine wpo_move (v := .bool (!labelOk a)) rfl rfl ?_
  rcases bcases (!labelOk a) with h130 | h130
  ·
   have h131 := nt_t h130
   iterate 3 refine wpo_pass rfl rfl rfl h130 rfl ?_
   refine wpo_pickt (v := .bool true) rfl h130 rfl rfl ?_
   exact wpo_nil ⟨⟨rfl, rfl, rfl, (congrArg Value.bool (by first | (simp only [h130, h131, b0, b1, b2, b3, b4, b5, b6, b7, b8, b9]; done) | simp [h130, h131]))⟩, hg128⟩
  ·
   have h132 := nt_f h130
   obtain ⟨⟨hlk133, hlk134⟩, hlk135, hlk136⟩ := (labelOk_iff a).1 h132
   refine wpo_run rfl rfl rfl h130 ?_
   have k137 := ((hN107.blk.grown0 hN111.grw).grown0 hg128)
   refine wpo_loadn (vs := [.int .i64 b.s, .int .i64 b.v]) rt_40 rfl rfl (k137.rangeL 0 2 rfl) rfl ?_
   refine wpo_run rfl rfl rfl h130 ?_
   refine wpo_call (vs := [.agg #[.int .i64 b.s, .int .i64 b.v]]) gf_70 (args_cons rfl args_nil) rfl (LabelOk_c b _) ?_
   rintro _ w138 ⟨rfl, hg139⟩
   have hb140 := low0 hb129 hg139
   refine wpo_run rfl rfl rfl h130 ?_
   refine wpo_not (b' := !labelOk b) rfl rfl rfl ?_
   refine wpo_pickf (v := .bool (!labelOk b)) rfl h130 rfl rfl ?_
   exact wpo_nil ⟨⟨rfl, rfl, rfl, (congrArg Value.bool (by first | (simp only [h130, h132, b0, b1, b2, b3, b4, b5, b6, b7, b8, b9]; done) | simp [h130, h132]))⟩, (grown_trans hg128 hg139)⟩
 ·
  rintro f141 w142 ⟨⟨e143, e144, e145, e146⟩, hg147⟩
  have hb148 := low0 hb113 hg147
  refine wpf_cond e146 (fun h149 => ?_) (fun h149 => ?_)
  ·
   refine wpf_seq_region ?_
   refine wpo_build (ps := []) (v := .agg #[.int .i64 0, .int .i64 0]) parts_nil (by kernel_rfl) rfl ?_
   have k150 := (hN111.blk.grown0 hg147)
   refine wpo_storen (vs := [.int .i64 0, .int .i64 0]) (cs' := #[.int .i64 0, .int .i64 0]) rt_40 e145 rfl rfl (by simp [Value.oneCell']) k150 (Nat.le_of_ble_eq_true rfl) rfl ?_
   intro w151 hS152
   have hb153 := low1 hb148 hS152.grw (by omega)
   refine wpo_nil ?_
   refine wpf_ret ?_
   refine thn_r ?_
   refine ⟨.agg #[.int .i64 0, .int .i64 0], resC rfl (resCell_mk (vs := [.int .i64 0, .int .i64 0]) rt_40 e145 rfl (hS152.blk.rangeL 0 2 rfl)), ?_, hb153⟩
   rw [join_no h149]
  ·
   have h154 := or_l h149
   have h155 := nt_f h154
   obtain ⟨⟨hlk156, hlk157⟩, hlk158, hlk159⟩ := (labelOk_iff a).1 h155
   have h160 := or_r h149
   have h161 := nt_f h160
   obtain ⟨⟨hlk162, hlk163⟩, hlk164, hlk165⟩ := (labelOk_iff b).1 h161
   refine wpf_skip ?_
   refine thn_n ?_
   refine wpf_seq_region ?_
   have k166 := ((k112.grown0 hN111.grw).grown0 hg147)
   refine wpo_loadn (vs := [.int .i64 a.s, .int .i64 a.v]) rt_40 e143 rfl (k166.rangeL 0 2 rfl) rfl ?_
   refine wpo_call (vs := [.agg #[.int .i64 a.s, .int .i64 a.v]]) gf_87 (args_cons rfl args_nil) rfl (labelSets_c a h155 _) ?_
   rintro _ w167 ⟨rfl, hg168⟩
   have hb169 := low0 hb148 hg168
   refine wpo_move (v := .tuple #[.int .u64 a.s, .int .u64 a.v]) rfl rfl ?_
   refine wpo_extract (v := .int .u64 a.s) rfl rfl rfl ?_
   refine wpo_extract (v := .int .u64 a.v) rfl rfl rfl ?_
   refine wpo_assign (v := .int .u64 a.s) rfl rfl ?_
   refine wpo_assign (v := .int .u64 a.v) rfl rfl ?_
   refine wpo_nil ?_
   refine wpf_seq_region ?_
   have k170 := (((hN107.blk.grown0 hN111.grw).grown0 hg147).grown0 hg168)
   refine wpo_loadn (vs := [.int .i64 b.s, .int .i64 b.v]) rt_40 e144 rfl (k170.rangeL 0 2 rfl) rfl ?_
   refine wpo_call (vs := [.agg #[.int .i64 b.s, .int .i64 b.v]]) gf_87 (args_cons rfl args_nil) rfl (labelSets_c b h161 _) ?_
   rintro _ w171 ⟨rfl, hg172⟩
   have hb173 := low0 hb169 hg172
   refine wpo_move (v := .tuple #[.int .u64 b.s, .int .u64 b.v]) rfl rfl ?_
   refine wpo_extract (v := .int .u64 b.s) rfl rfl rfl ?_
   refine wpo_extract (v := .int .u64 b.v) rfl rfl rfl ?_
   refine wpo_assign (v := .int .u64 b.s) rfl rfl ?_
   refine wpo_assign (v := .int .u64 b.v) rfl rfl ?_
   refine wpo_nil ?_
   refine wpf_seq_region ?_
   refine wpo_move (v := .int .u64 a.s) rfl rfl ?_
   refine wpo_move (v := .int .u64 b.s) rfl rfl ?_
   refine wpo_bin (u := .int .u64 a.s) (u' := .int .u64 b.s) (v := .int .u64 (bits .or .u64 a.s b.s)) rfl rfl (by rw [binOp_or, intBits_or]; rfl) (fun _ _ => eqGuard_at_int ..) rfl ?_
   refine wpo_move (v := .int .u64 a.v) rfl rfl ?_
   refine wpo_move (v := .int .u64 b.v) rfl rfl ?_
   refine wpo_bin (u := .int .u64 a.v) (u' := .int .u64 b.v) (v := .int .u64 (bits .and .u64 a.v b.v)) rfl rfl (by rw [binOp_and, intBits_and]; rfl) (fun _ _ => eqGuard_at_int ..) rfl ?_
   refine wpo_call (vs := [.int .u64 (bits .or .u64 a.s b.s), .int .u64 (bits .and .u64 a.v b.v)]) gf_97 (args_cons rfl (args_cons rfl args_nil)) rfl (labelOf_c (bits .or .u64 a.s b.s) (bits .and .u64 a.v b.v) (bits_rng _ _ ⟨by omega, by omega⟩ ⟨by omega, by omega⟩).1 (bits_rng _ _ ⟨by omega, by omega⟩ ⟨by omega, by omega⟩).2 _) ?_
   rintro _ w174 ⟨rfl, hg175⟩
   have hb176 := low0 hb173 hg175
   have k177 := ((((hN111.blk.grown0 hg147).grown0 hg168).grown0 hg172).grown0 hg175)
   refine wpo_storen (vs := [.int .i64 (bits .or .u64 a.s b.s), .int .i64 (bits .and .u64 a.v b.v)]) (cs' := #[.int .i64 (bits .or .u64 a.s b.s), .int .i64 (bits .and .u64 a.v b.v)]) rt_40 e145 rfl rfl (by simp [Value.oneCell']) k177 (Nat.le_of_ble_eq_true rfl) rfl ?_
   intro w178 hS179
   have hb180 := low1 hb176 hS179.grw (by omega)
   refine wpo_nil ?_
   refine wpf_ret ?_
   refine ⟨.agg #[.int .i64 (bits .or .u64 a.s b.s), .int .i64 (bits .and .u64 a.v b.v)], resC rfl (resCell_mk (vs := [.int .i64 (bits .or .u64 a.s b.s), .int .i64 (bits .and .u64 a.v b.v)]) rt_40 e145 rfl (hS179.blk.rangeL 0 2 rfl)), ?_, hb180⟩
   rw [join_yes h155 h161]; rfl
theorem ldLabel_c (n : Int) (hn : 0 ≤ n ∧ n ≤ 9223372036854775807) (w : World) : CallsR Try.prog 53 #[.int .i64 n] w (fun v w' => v = .agg #[.int .i64 (n % 4), .int .i64 (n / 4 % 4)] ∧ w.grownBy w' none) := by
 refine calls_of_wpf (n := 9) Try.func53 rfl Try.ntmps53 rfl ?_
 have hb0 := World.grownBy.refl w none
 refine wpf_seq_region ?_
 refine wpo_alloc (cs := #[.int .i64 0, .int .i64 0]) zt_40 rfl rfl ?_
 intro B101 w102 hN103
 have hlB101 := hN_ge hN103 hb0
 have hb104 := low0 hb0 hN103.grw
 refine wpo_nil ?_
 refine wpf_seq_region ?_
 refine wpo_move (v := .int .i64 n) rfl rfl ?_
 refine wpo_rem (c := n % 4) rfl rfl (by omega) (by omega) (by omega) rfl rfl ?_
 refine wpo_move (v := .int .i64 n) rfl rfl ?_
 refine wpo_quo (c := n / 4) rfl rfl (by omega) (by omega) (by omega) rfl rfl ?_
 refine wpo_rem (c := (n / 4) % 4) rfl rfl (by omega) (by omega) (by omega) rfl rfl ?_
 refine wpo_build (ps := [(0, .int .i64 (n % 4)), (1, .int .i64 ((n / 4) % 4))]) (v := .agg #[.int .i64 (n % 4), .int .i64 ((n / 4) % 4)]) (parts_cons rfl (parts_cons rfl parts_nil)) (by kernel_rfl) rfl ?_
 refine wpo_storen (vs := [.int .i64 (n % 4), .int .i64 ((n / 4) % 4)]) (cs' := #[.int .i64 (n % 4), .int .i64 ((n / 4) % 4)]) rt_40 rfl rfl rfl (by simp [Value.oneCell']) hN103.blk (Nat.le_of_ble_eq_true rfl) rfl ?_
 intro w105 hS106
 have hb107 := low1 hb104 hS106.grw (by omega)
 refine wpo_nil ?_
 refine wpf_ret ?_
 refine ⟨.agg #[.int .i64 (n % 4), .int .i64 ((n / 4) % 4)], resC rfl (resCell_mk (vs := [.int .i64 (n % 4), .int .i64 ((n / 4) % 4)]) rt_40 rfl rfl (hS106.blk.rangeL 0 2 rfl)), ?_, hb107⟩
 rfl
theorem gf_46 : goFn Try.prog 46 = true := by kernel_rfl
theorem gf_47 : goFn Try.prog 47 = true := by kernel_rfl
theorem gf_52 : goFn Try.prog 52 = true := by kernel_rfl
theorem gf_53 : goFn Try.prog 53 = true := by kernel_rfl
theorem law_FnLowTwice (bs : List Int) (a : Option Addr) (c : Nat) (w : World) (hs0 : SlAt w a 1 (bs.map bcell)) (hb : ∀ b ∈ bs, 0 ≤ b ∧ b ≤ 255) (hn : bs.length ≤ 9223372036854775807) (hc : bs.length ≤ c) (m : Nat) (a2 : Option Addr) (c2 : Nat) (hm : m ≤ 9223372036854775807) : CallsR Try.prog 12 #[.slice a bs.length c, .slice a2 m c2] w (fun v w' => v = .bool true ∧ w.grownBy w' none) := by
 refine calls_of_wpf (n := 92) Try.func12 rfl Try.ntmps12 rfl ?_
 have hb0 := World.grownBy.refl w none
 have hs := SlAt.lt wide_b (by omega) hs0
 refine wpf_seq_region ?_
 refine wpo_assign (v := .bool false) rfl rfl ?_
 refine wpo_nil ?_
 refine wpf_seq ?_
 refine wpf_seq_region_mid (fun f' w' => (f' 0 = .slice a bs.length c ∧ f' 1 = .slice a2 m c2 ∧ f' 4 = .bool false ∧ f' 19 = .bool ((decide (1048576 < (bs.length : Int))) || (decide (1048576 < (m : Int))))) ∧ w = w') ?_ ?_
 ·
  refine wpo_move (v := .slice a bs.length c) rfl rfl ?_
  refine wpo_len (by kernel_rfl) rfl rfl ?_
  refine wpo_gtr (q := decide (1048576 < (bs.length : Int))) rfl rfl rfl rfl ?_
  refine wpo_move (v := .bool (decide (1048576 < (bs.length : Int)))) rfl rfl ?_
  rcases bcases (decide (1048576 < (bs.length : Int))) with h101 | h101
  ·
   have h102 := of_decide_eq_true h101
   iterate 3 refine wpo_pass rfl rfl rfl h101 rfl ?_
   refine wpo_pickt (v := .bool true) rfl h101 rfl rfl ?_
   exact wpo_nil ⟨⟨rfl, rfl, rfl, (congrArg Value.bool (by first | (simp only [h101, b0, b1, b2, b3, b4, b5, b6, b7, b8, b9]; done) | simp [h101]))⟩, rfl⟩
  ·
   have h103 := of_decide_eq_false h101
   refine wpo_run rfl rfl rfl h101 ?_
   refine wpo_move (v := .slice a2 m c2) rfl rfl ?_
   refine wpo_run rfl rfl rfl h101 ?_
   refine wpo_len (by kernel_rfl) rfl rfl ?_
   refine wpo_run rfl rfl rfl h101 ?_
   refine wpo_gtr (q := decide (1048576 < (m : Int))) rfl rfl rfl rfl ?_
   refine wpo_pickf (v := .bool (decide (1048576 < (m : Int)))) rfl h101 rfl rfl ?_
   exact wpo_nil ⟨⟨rfl, rfl, rfl, (congrArg Value.bool (by first | (simp only [h101, b0, b1, b2, b3, b4, b5, b6, b7, b8, b9]; done) | simp [h101]))⟩, rfl⟩
 ·
  rintro f104 w105 ⟨⟨e106, e107, e108, e109⟩, rfl⟩
  refine wpf_cond e109 (fun h110 => ?_) (fun h110 => ?_)
  ·
   refine wpf_seq_region ?_
   refine wpo_assign (v := .bool true) rfl rfl ?_
   refine wpo_nil ?_
   refine wpf_ret ?_
   refine thn_r ?_
   refine ⟨.bool true, res1 rfl rfl, ?_, hb0⟩
   rfl
  ·
   have h111 := or_l h110
   have h112 := of_decide_eq_false h111
   have h113 := or_r h110
   have h114 := of_decide_eq_false h113
   refine wpf_skip ?_
   refine thn_n ?_
   refine wpf_seq_region ?_
   refine wpo_move (v := .slice a bs.length c) e106 rfl ?_
   refine wpo_call (vs := [.slice a bs.length c]) gf_51 (args_cons rfl args_nil) rfl (DrawRunLow_c bs a c _ (SlAt.low hs0 hb0) hb (by omega) (by omega)) ?_
   rintro _ w130 ⟨B115, cap116, ms117, B118, cap119, cs120, l121, rfl, hTG122, hTS123, hTn124, hO125, hge126, hcl127, hd128, hg129⟩
   have hb131 := low0 hb0 hg129
   have hTl132 := hTS123.len
   have hlB118 := Nat.le_trans hb0.size hge126
   refine wpo_move (v := .tuple #[.slice (some ⟨B115, 0, none⟩) ms117.length cap116, .slice (some ⟨B118, 0, none⟩) cs120.length cap119, .agg #[.int .i64 l121.s, .int .i64 l121.v]]) rfl rfl ?_
   refine wpo_extract (v := .slice (some ⟨B115, 0, none⟩) ms117.length cap116) rfl rfl rfl ?_
   refine wpo_extract (v := .slice (some ⟨B118, 0, none⟩) cs120.length cap119) rfl rfl rfl ?_
   refine wpo_extract (v := .agg #[.int .i64 l121.s, .int .i64 l121.v]) rfl rfl rfl ?_
   refine wpo_alloc (cs := #[.int .i64 0, .int .i64 0]) zt_40 rfl rfl ?_
   intro B133 w134 hN135
   have hlB133 := hN_ge hN135 hb131
   have lt_B118_B133 := hN_gtl hN135 (hO125).lt
   have hb136 := low0 hb131 hN135.grw
   refine wpo_assign (v := .slice (some ⟨B115, 0, none⟩) ms117.length cap116) rfl rfl ?_
   refine wpo_assign (v := .slice (some ⟨B118, 0, none⟩) cs120.length cap119) rfl rfl ?_
   refine wpo_storen (vs := [.int .i64 l121.s, .int .i64 l121.v]) (cs' := #[.int .i64 l121.s, .int .i64 l121.v]) rt_40 rfl rfl rfl (by simp [Value.oneCell']) hN135.blk (Nat.le_of_ble_eq_true rfl) rfl ?_
   intro w137 hS138
   have hb139 := low1 hb136 hS138.grw (by omega)
   refine wpo_nil ?_
   refine wpf_seq_region ?_
   refine wpo_move (v := .slice (some ⟨B115, 0, none⟩) ms117.length cap116) rfl rfl ?_
   refine wpo_move (v := .slice (some ⟨B118, 0, none⟩) cs120.length cap119) rfl rfl ?_
   refine wpo_loadn (vs := [.int .i64 l121.s, .int .i64 l121.v]) rt_40 rfl rfl (hS138.blk.rangeL 0 2 rfl) rfl ?_
   have k140 := ((hO125.grown0 hN135.grw).grown hS138.grw (some_ne (by omega)))
   have ltw_B118_w137 := (k140).lt
   have ltw_B133_w137 := (hS138.blk).lt
   refine wpo_call (vs := [.slice (some ⟨B115, 0, none⟩) ms117.length cap116, .slice (some ⟨B118, 0, none⟩) cs120.length cap119, .agg #[.int .i64 l121.s, .int .i64 l121.v]]) gf_47 (args_cons rfl (args_cons rfl (args_cons rfl args_nil))) rfl (RunLow_c l121 _ ms117 _ _ (TabG.at (TabG.low hTG122 (low1 hN135.grw hS138.grw (Nat.le_trans ((World.grownBy.refl _ none)).size (Nat.le_of_eq hN135.eq.symm))))) hTl132 (by omega) cs120 _ _ (Own.sl wide_cl k140) (by first | omega | exact Nat.le_of_ble_eq_true rfl | (simp only [List.length_nil, List.length_cons, List.length_append, List.length_replicate]; omega))) ?_
   rintro _ w146 ⟨a141, cap142, rfl, hO144, hg145⟩
   have hb147 := low0 hb139 hg145
   have hrn148 := runLow_len (tabT ms117) cs120 l121
   have hlw149 : w.heap.size ≤ w137.heap.size := hb139.size
   refine wpo_assign (v := .slice a141 ((runLow (tabT ms117) cs120 l121).length) cap142) rfl rfl ?_
   refine wpo_nil ?_
   refine wpf_seq_region ?_
   refine wpo_move (v := .slice (some ⟨B115, 0, none⟩) ms117.length cap116) rfl rfl ?_
   refine wpo_move (v := .slice (some ⟨B118, 0, none⟩) cs120.length cap119) rfl rfl ?_
   have k150 := (hS138.blk.grown0 hg145)
   refine wpo_loadn (vs := [.int .i64 l121.s, .int .i64 l121.v]) rt_40 rfl rfl (k150.rangeL 0 2 rfl) rfl ?_
   have k151 := (k140.grown0 hg145)
   refine wpo_call (vs := [.slice (some ⟨B115, 0, none⟩) ms117.length cap116, .slice (some ⟨B118, 0, none⟩) cs120.length cap119, .agg #[.int .i64 l121.s, .int .i64 l121.v]]) gf_46 (args_cons rfl (args_cons rfl (args_cons rfl args_nil))) rfl (sRunLow_c l121 _ ms117 _ _ (TabG.at (TabG.low hTG122 (low0 (low1 hN135.grw hS138.grw (Nat.le_trans ((World.grownBy.refl _ none)).size (Nat.le_of_eq hN135.eq.symm))) hg145))) hTl132 (by omega) cs120 _ _ (Own.sl wide_cl k151) (by first | omega | exact Nat.le_of_ble_eq_true rfl | (simp only [List.length_nil, List.length_cons, List.length_append, List.length_replicate]; omega))) ?_
   rintro _ w157 ⟨B152, cap153, rfl, hge154, hO155, hg156⟩
   have hb158 := low0 hb147 hg156
   have hrn159 := runLow_len (tabT ms117) cs120 l121
   have hlB152 := Nat.le_trans hb147.size hge154
   have lt_B118_B152 := Nat.lt_of_lt_of_le (k151).lt hge154
   have lt_B133_B152 := Nat.lt_of_lt_of_le (k150).lt hge154
   refine wpo_assign (v := .slice (some ⟨B152, 0, none⟩) ((runLow (tabT ms117) cs120 l121).length) cap153) rfl rfl ?_
   refine wpo_nil ?_
   refine wpf_seq ?_
   refine wpf_seq_region_mid (fun f' w' => (f' 1 = .slice a2 m c2 ∧ f' 4 = .bool false ∧ f' 5 = .slice (some ⟨B115, 0, none⟩) ms117.length cap116 ∧ f' 6 = .slice (some ⟨B118, 0, none⟩) cs120.length cap119 ∧ f' 7 = .pointer (some ⟨B133, 0, none⟩) ∧ f' 8 = .slice a141 ((runLow (tabT ms117) cs120 l121).length) cap142 ∧ f' 9 = .slice (some ⟨B152, 0, none⟩) ((runLow (tabT ms117) cs120 l121).length) cap153 ∧ f' 48 = .bool ((false || (!tableOk (tabT ms117))) || (!labelOk l121))) ∧ w157.grownBy w' none) ?_ ?_
   ·
    refine wpo_move (v := .slice a141 ((runLow (tabT ms117) cs120 l121).length) cap142) rfl rfl ?_
    refine wpo_len (by kernel_rfl) rfl rfl ?_
    refine wpo_move (v := .slice (some ⟨B152, 0, none⟩) ((runLow (tabT ms117) cs120 l121).length) cap153) rfl rfl ?_
    refine wpo_len (by kernel_rfl) rfl rfl ?_
    refine wpo_neq (q := false) rfl rfl (by simp) rfl ?_
    refine wpo_move (v := .bool false) rfl rfl ?_
    refine wpo_run rfl rfl rfl rfl ?_
    refine wpo_move (v := .slice (some ⟨B115, 0, none⟩) ms117.length cap116) rfl rfl ?_
    refine wpo_run rfl rfl rfl rfl ?_
    refine wpo_call (vs := [.slice (some ⟨B115, 0, none⟩) ms117.length cap116]) gf_34 (args_cons rfl args_nil) rfl (sTableOk_c  _ ms117 _ _ (TabG.at (TabG.low hTG122 (low0 (low0 (low1 hN135.grw hS138.grw (Nat.le_trans ((World.grownBy.refl _ none)).size (Nat.le_of_eq hN135.eq.symm))) hg145) hg156))) hTl132 (by omega)) ?_
    rintro _ w170 ⟨rfl, hg171⟩
    have hb172 := low0 hb158 hg171
    refine wpo_run rfl rfl rfl rfl ?_
    refine wpo_not (b' := !tableOk (tabT ms117)) rfl rfl rfl ?_
    refine wpo_pickf (v := .bool (!tableOk (tabT ms117))) rfl rfl rfl rfl ?_
    refine wpo_move (v := .bool (!tableOk (tabT ms117))) rfl rfl ?_
    rcases bcases (!tableOk (tabT ms117)) with h173 | h173
    ·
     have h174 := nt_t h173
     iterate 3 refine wpo_pass rfl rfl rfl h173 rfl ?_
     refine wpo_pickt (v := .bool true) rfl h173 rfl rfl ?_
     exact wpo_nil ⟨⟨e107, e108, rfl, rfl, rfl, rfl, rfl, (congrArg Value.bool (by first | (simp only [h110, h111, h113, h173, h174, b0, b1, b2, b3, b4, b5, b6, b7, b8, b9]; done) | simp [h110, h111, h113, h173, h174]))⟩, hg171⟩
    ·
     have h175 := nt_f h173
     refine wpo_run rfl rfl rfl h173 ?_
     have k176 := ((k150.grown0 hg156).grown0 hg171)
     refine wpo_loadn (vs := [.int .i64 l121.s, .int .i64 l121.v]) rt_40 rfl rfl (k176.rangeL 0 2 rfl) rfl ?_
     refine wpo_run rfl rfl rfl h173 ?_
     refine wpo_call (vs := [.agg #[.int .i64 l121.s, .int .i64 l121.v]]) gf_35 (args_cons rfl args_nil) rfl (sLabelOk_c l121 _) ?_
     rintro _ w177 ⟨rfl, hg178⟩
     have hb179 := low0 hb172 hg178
     refine wpo_run rfl rfl rfl h173 ?_
     refine wpo_not (b' := !labelOk l121) rfl rfl rfl ?_
     refine wpo_pickf (v := .bool (!labelOk l121)) rfl h173 rfl rfl ?_
     exact wpo_nil ⟨⟨e107, e108, rfl, rfl, rfl, rfl, rfl, (congrArg Value.bool (by first | (simp only [h110, h111, h113, h173, h175, b0, b1, b2, b3, b4, b5, b6, b7, b8, b9]; done) | simp [h110, h111, h113, h173, h175]))⟩, (grown_trans hg171 hg178)⟩
   ·
    rintro f180 w181 ⟨⟨e182, e183, e184, e185, e186, e187, e188, e189⟩, hg190⟩
    have hb191 := low0 hb158 hg190
    refine wpf_cond e189 (fun h192 => ?_) (fun h192 => ?_)
    ·
     refine wpf_seq_region ?_
     refine wpo_move (v := .slice a141 ((runLow (tabT ms117) cs120 l121).length) cap142) e187 rfl ?_
     refine wpo_len (by kernel_rfl) rfl rfl ?_
     refine wpo_move (v := .slice (some ⟨B152, 0, none⟩) ((runLow (tabT ms117) cs120 l121).length) cap153) e188 rfl ?_
     refine wpo_len (by kernel_rfl) rfl rfl ?_
     refine wpo_eql (q := true) rfl rfl (by simp) rfl ?_
     refine wpo_assign (v := .bool true) rfl rfl ?_
     refine wpo_nil ?_
     refine wpf_ret ?_
     refine thn_r ?_
     refine ⟨.bool true, res1 rfl rfl, ?_, hb191⟩
     rfl
    ·
     have h193 := or_l h192
     have h194 := or_l h193
     have h195 := or_r h193
     have h196 := nt_f h195
     have h197 := or_r h192
     have h198 := nt_f h197
     refine wpf_skip ?_
     refine thn_n ?_
     refine wpf_seq_region ?_
     refine wpo_move (v := .slice (some ⟨B115, 0, none⟩) ms117.length cap116) e184 rfl ?_
     refine wpo_move (v := .slice a141 ((runLow (tabT ms117) cs120 l121).length) cap142) e187 rfl ?_
     have k199 := ((k150.grown0 hg156).grown0 hg190)
     refine wpo_loadn (vs := [.int .i64 l121.s, .int .i64 l121.v]) rt_40 e186 rfl (k199.rangeL 0 2 rfl) rfl ?_
     have k200 := ((k151.grown0 hg156).grown0 hg190)
     have k201 := (hO155.grown0 hg190)
     have ltw_B118_w181 := (k200).lt
     have ltw_B133_w181 := (k199).lt
     have ltw_B152_w181 := (k201).lt
     refine wpo_call (vs := [.slice (some ⟨B115, 0, none⟩) ms117.length cap116, .slice a141 ((runLow (tabT ms117) cs120 l121).length) cap142, .agg #[.int .i64 l121.s, .int .i64 l121.v]]) gf_47 (args_cons rfl (args_cons rfl (args_cons rfl args_nil))) rfl (RunLow_c l121 _ ms117 _ _ (TabG.at (TabG.low hTG122 (low0 (low0 (low0 (low1 hN135.grw hS138.grw (Nat.le_trans ((World.grownBy.refl _ none)).size (Nat.le_of_eq hN135.eq.symm))) hg145) hg156) hg190))) hTl132 (by omega) (runLow (tabT ms117) cs120 l121) _ _ (OwnN.sl wide_cl (by omega) ((hO144.grown0 hg156).grown0 hg190)) (by first | omega | exact Nat.le_of_ble_eq_true rfl | (simp only [List.length_nil, List.length_cons, List.length_append, List.length_replicate]; omega))) ?_
     rintro _ w207 ⟨a202, cap203, rfl, hO205, hg206⟩
     rw [low_twice] at hO205 ⊢
     have hb208 := low0 hb191 hg206
     have hrn209 := runLow_len (tabT ms117) (runLow (tabT ms117) cs120 l121) l121
     have hlw210 : w.heap.size ≤ w181.heap.size := hb191.size
     refine wpo_assign (v := .slice a202 ((runLow (tabT ms117) cs120 l121).length) cap203) rfl rfl ?_
     refine wpo_nil ?_
     refine wpf_seq ?_
     refine wpf_seq_region ?_
     refine wpo_assign (v := .int .i64 0) rfl rfl ?_
     refine wpo_nil ?_
     refine wpf_block ?_
     obtain ⟨hi, hhi⟩ : ∃ n, n = w207.heap.size := ⟨_, rfl⟩
     have hTG211 := (TabG.low hTG122 (low0 (low0 (low0 (low0 (low1 hN135.grw hS138.grw (Nat.le_trans ((World.grownBy.refl _ none)).size (Nat.le_of_eq hN135.eq.symm))) hg145) hg156) hg190) hg206))
     have hTH := TabG.hi (TabG.low hTG122 (low0 (low0 (low0 (low0 (low1 hN135.grw hS138.grw (Nat.le_trans ((World.grownBy.refl _ none)).size (Nat.le_of_eq hN135.eq.symm))) hg145) hg156) hg190) hg206))
     rw [← hhi] at hTH
     have k212 := (k200.grown0 hg206)
     have k213 := (k199.grown0 hg206)
     refine wpf_loopN (fun mm f' w' => ∃ (k : Nat), mm = (runLow (tabT ms117) cs120 l121).length - k ∧ k ≤ (runLow (tabT ms117) cs120 l121).length ∧ TabG w.heap.size w' (some ⟨B115, 0, none⟩) ms117 ∧ hi ≤ w'.heap.size ∧ OwnN w137.heap.size w' a141 76 5 cap142 (runLow (tabT ms117) cs120 l121).length ((runLow (tabT ms117) cs120 l121).flatMap Cl.cells) ∧ OwnN w181.heap.size w' a202 76 5 cap203 (runLow (tabT ms117) cs120 l121).length ((runLow (tabT ms117) cs120 l121).flatMap Cl.cells) ∧ f' 11 = .int .i64 (k : Int) ∧ f' 1 = .slice a2 m c2 ∧ f' 5 = .slice (some ⟨B115, 0, none⟩) ms117.length cap116 ∧ f' 6 = .slice (some ⟨B118, 0, none⟩) cs120.length cap119 ∧ f' 7 = .pointer (some ⟨B133, 0, none⟩) ∧ f' 8 = .slice a141 ((runLow (tabT ms117) cs120 l121).length) cap142 ∧ f' 10 = .slice a202 ((runLow (tabT ms117) cs120 l121).length) cap203 ∧ w.grownBy w' none ∧ Dw.Own w' B118 76 5 cap119 cs120.length (cs120.flatMap Cl.cells) ∧ Blk w' B133 40 #[.int .i64 l121.s, .int .i64 l121.v]) ((runLow (tabT ms117) cs120 l121).length - 0) ⟨0, rfl, (Nat.zero_le _), hTG211, (Nat.le_of_eq hhi), (((hO144.grown0 hg156).grown0 hg190).grown0 hg206), hO205, rfl, e182, e184, e185, e186, e187, rfl, hb208, k212, k213⟩ ?_
     rintro mm f214 w215 ⟨k, hm217, hk, hGl, hhs, hOwA, hOwB, e218, e219, e220, e221, e222, e223, e224, hb216, k225, k226⟩
     refine wpf_seq ?_
     refine wpf_seq_region ?_
     refine wpo_move (v := .int .i64 (k : Int)) e218 rfl ?_
     refine wpo_move (v := .slice a202 ((runLow (tabT ms117) cs120 l121).length) cap203) e224 rfl ?_
     refine wpo_len (by kernel_rfl) rfl rfl ?_
     refine wpo_lss (q := decide ((k : Int) < ((runLow (tabT ms117) cs120 l121).length : Int))) rfl rfl rfl rfl ?_
     refine wpo_nil ?_
     refine wpf_cond rfl (fun h227 => ?_) (fun h227 => ?_)
     ·
      have h228 := of_decide_eq_true h227
      refine wpf_skip ?_
      refine thn_n ?_
      refine wpf_seq ?_
      refine wpf_block ?_
      refine wpf_seq ?_
      obtain ⟨b263, q264, o265, ha266, ho267, hr268⟩ := SlAt.at (OwnN.sl wide_cl (by omega) hOwB) (map_get (cAt_get (show k < (runLow (tabT ms117) cs120 l121).length by omega)))
      obtain ⟨b271, q272, o273, ha274, ho275, hr276⟩ := SlAt.at (OwnN.sl wide_cl (by omega) hOwA) (map_get (cAt_get (show k < (runLow (tabT ms117) cs120 l121).length by omega)))
      refine wpf_draw (m := 8) (vals := [(64, .slice a202 ((runLow (tabT ms117) cs120 l121).length) cap203), (65, .int .i64 (k : Int)), (66, .pointer (some ⟨b263, o265, none⟩)), (67, .agg #[.int .i64 ((cAt (runLow (tabT ms117) cs120 l121) k).kind), .int .i64 ((cAt (runLow (tabT ms117) cs120 l121) k).run), .int .i64 ((cAt (runLow (tabT ms117) cs120 l121) k).a), .int .i64 ((cAt (runLow (tabT ms117) cs120 l121) k).b), .int .i64 ((cAt (runLow (tabT ms117) cs120 l121) k).n)]), (68, .slice a141 ((runLow (tabT ms117) cs120 l121).length) cap142), (69, .int .i64 (k : Int)), (70, .pointer (some ⟨b271, o273, none⟩)), (71, .agg #[.int .i64 ((cAt (runLow (tabT ms117) cs120 l121) k).kind), .int .i64 ((cAt (runLow (tabT ms117) cs120 l121) k).run), .int .i64 ((cAt (runLow (tabT ms117) cs120 l121) k).a), .int .i64 ((cAt (runLow (tabT ms117) cs120 l121) k).b), .int .i64 ((cAt (runLow (tabT ms117) cs120 l121) k).n)])]) (fun w' => w215.grownBy w' none) mixed_ (by kernel_rfl) (grown_drew _) ?_ ?_
      ·
       refine yll_cons rfl (fun w277 hi278 => ?_) ?_
       ·
        have hb279 := low0 hb216 hi278
        refine wpo_move (v := .slice a202 ((runLow (tabT ms117) cs120 l121).length) cap203) e224 rfl ?_
        exact wpo_nil ⟨rfl, hi278⟩
       refine yll_cons rfl (fun w280 hi281 => ?_) ?_
       ·
        have hb282 := low0 hb216 hi281
        refine wpo_move (v := .int .i64 (k : Int)) e218 rfl ?_
        exact wpo_nil ⟨rfl, hi281⟩
       refine yll_cons rfl (fun w283 hi284 => ?_) ?_
       ·
        have hb285 := low0 hb216 hi284
        refine wpo_indexE es_69 rfl rfl ha266 ho267 (by omega) (by omega) rfl ?_
        exact wpo_nil ⟨rfl, hi284⟩
       refine yll_cons rfl (fun w286 hi287 => ?_) ?_
       ·
        have hb288 := low0 hb216 hi287
        refine wpo_loadn (vs := [.int .i64 ((cAt (runLow (tabT ms117) cs120 l121) k).kind), .int .i64 ((cAt (runLow (tabT ms117) cs120 l121) k).run), .int .i64 ((cAt (runLow (tabT ms117) cs120 l121) k).a), .int .i64 ((cAt (runLow (tabT ms117) cs120 l121) k).b), .int .i64 ((cAt (runLow (tabT ms117) cs120 l121) k).n)]) rt_76 rfl rfl (range_sub (range_low hr268 hi287) 0 5 rfl) rfl ?_
        exact wpo_nil ⟨rfl, hi287⟩
       refine yll_cons rfl (fun w289 hi290 => ?_) ?_
       ·
        have hb291 := low0 hb216 hi290
        refine wpo_move (v := .slice a141 ((runLow (tabT ms117) cs120 l121).length) cap142) e223 rfl ?_
        exact wpo_nil ⟨rfl, hi290⟩
       refine yll_cons rfl (fun w292 hi293 => ?_) ?_
       ·
        have hb294 := low0 hb216 hi293
        refine wpo_move (v := .int .i64 (k : Int)) e218 rfl ?_
        exact wpo_nil ⟨rfl, hi293⟩
       refine yll_cons rfl (fun w295 hi296 => ?_) ?_
       ·
        have hb297 := low0 hb216 hi296
        refine wpo_indexE es_69 rfl rfl ha274 ho275 (by omega) (by omega) rfl ?_
        exact wpo_nil ⟨rfl, hi296⟩
       refine yll_cons rfl (fun w298 hi299 => ?_) ?_
       ·
        have hb300 := low0 hb216 hi299
        refine wpo_loadn (vs := [.int .i64 ((cAt (runLow (tabT ms117) cs120 l121) k).kind), .int .i64 ((cAt (runLow (tabT ms117) cs120 l121) k).run), .int .i64 ((cAt (runLow (tabT ms117) cs120 l121) k).a), .int .i64 ((cAt (runLow (tabT ms117) cs120 l121) k).b), .int .i64 ((cAt (runLow (tabT ms117) cs120 l121) k).n)]) rt_76 rfl rfl (range_sub (range_low hr276 hi299) 0 5 rfl) rfl ?_
        exact wpo_nil ⟨rfl, hi299⟩
       exact yll_nil
      ·
       intro w301 hi302
       have hb303 := low0 hb216 hi302
       refine wpo_eqs (q := !(decide ((cAt (runLow (tabT ms117) cs120 l121) k) = (cAt (runLow (tabT ms117) cs120 l121) k)))) rfl rfl (neG_76 _ _ (cAt (runLow (tabT ms117) cs120 l121) k) (cAt (runLow (tabT ms117) cs120 l121) k) _) (neV_76 (cAt (runLow (tabT ms117) cs120 l121) k) (cAt (runLow (tabT ms117) cs120 l121) k) _) rfl rfl ?_
       refine wpo_nil ?_
       refine thn_n ?_
       refine wpf_cond rfl (fun h304 => ?_) (fun h304 => ?_)
       ·
        have h305 := nt_t h304
        have h306 := of_decide_eq_false h305
        refine wpf_seq_region ?_
        refine wpo_assign (v := .bool false) rfl rfl ?_
        refine wpo_nil ?_
        refine wpf_ret ?_
        refine blk_r ?_
        refine thn_r ?_
        refine thn_r ?_
        refine blk_r ?_
        refine thn_r ?_
        refine ⟨.bool false, res1 rfl rfl, ?_, hb303⟩
        exact absurd (decide_eq_true rfl) (by rw [h305]; exact Bool.false_ne_true)
       ·
        have h307 := nt_f h304
        have h308 := of_decide_eq_true h307
        refine wpf_skip ?_
        refine blk_n ?_
        refine thn_n ?_
        refine wpf_region ?_
        refine wpo_move (v := .int .i64 (k : Int)) e218 rfl ?_
        refine wpo_add (c := (k : Int) + 1) rfl rfl (by omega) (by omega) (by omega) rfl ?_
        refine wpo_assign (v := .int .i64 ((k : Int) + 1)) rfl rfl ?_
        refine wpo_nil ?_
        refine thn_n ?_
        have hTG309 := (TabG.low hGl hi302)
        have k310 := (k225.grown0 hi302)
        have k311 := (k226.grown0 hi302)
        exact ⟨(runLow (tabT ms117) cs120 l121).length - (k + 1), by omega, (k + 1), rfl, (by omega), hTG309, (Nat.le_trans hhs hi302.size), (hOwA.grown0 hi302), (hOwB.grown0 hi302), rfl, e219, e220, e221, e222, e223, e224, hb303, k310, k311⟩
     ·
      have h312 := of_decide_eq_false h227
      refine wpf_exit ?_
      refine thn_e ?_
      refine thn_e ?_
      refine blk_e ?_
      refine thn_n ?_
      refine wpf_seq ?_
      refine wpf_drawI (m := 17) [[], [0], [], [2], [0, 1, 2, 3], [0, 1, 2, 3, 4], [0, 1, 2, 3, 4, 5], [0, 1, 2, 3, 4, 5], [0, 1, 2, 3, 4, 5], [0, 1, 2, 3, 4, 5], [0, 1, 2, 3, 4, 5, 9], [0, 1, 2, 3, 4, 5, 9, 10], [0, 1, 2, 3, 4, 5, 8, 9, 10, 11], [0, 1, 2, 3, 4, 5, 6, 7, 8, 9, 10, 11, 12], [0, 1, 2, 3, 4, 5, 6, 7, 8, 9, 10, 11, 12, 13], [0, 1, 2, 3, 4, 5], [0, 1, 2, 3, 4, 5, 15], [0, 1, 2, 3, 4, 5, 6, 7, 8, 9, 10, 11, 12, 13, 14, 15, 16], [0, 1, 2, 3, 4, 5, 6, 7, 8, 9, 10, 11, 12, 13, 14, 15, 16, 17], [0, 1, 2, 3, 4, 5, 6, 7, 8, 9, 10, 11, 12, 13, 14, 15, 16, 17, 18]] (fun S F w' => ∃ (a376 : Option Addr) (cap377 : Nat), w215.grownBy w' none ∧ F 1 = .slice a2 m c2 ∧ F 5 = .slice (some ⟨B115, 0, none⟩) ms117.length cap116 ∧ F 6 = .slice (some ⟨B118, 0, none⟩) cs120.length cap119 ∧ F 7 = .pointer (some ⟨B133, 0, none⟩) ∧ F 8 = .slice a141 ((runLow (tabT ms117) cs120 l121).length) cap142 ∧ F 10 = .slice a202 ((runLow (tabT ms117) cs120 l121).length) cap203 ∧ (S 0 = true → F 73 = .slice a202 ((runLow (tabT ms117) cs120 l121).length) cap203) ∧ (S 1 = true → F 74 = .int .i64 ((runLow (tabT ms117) cs120 l121).length : Int)) ∧ (S 2 = true → F 75 = .slice a141 ((runLow (tabT ms117) cs120 l121).length) cap142) ∧ (S 3 = true → F 76 = .int .i64 ((runLow (tabT ms117) cs120 l121).length : Int)) ∧ (S 4 = true → F 77 = .bool true) ∧ (S 5 = true → F 78 = .bool true) ∧ (S 6 = true → F 79 = .slice (some ⟨B115, 0, none⟩) ms117.length cap116) ∧ (S 7 = true → F 80 = .slice (some ⟨B118, 0, none⟩) cs120.length cap119) ∧ (S 8 = true → F 81 = .agg #[.int .i64 l121.s, .int .i64 l121.v]) ∧ (S 9 = true → F 82 = .slice a2 m c2) ∧ (S 10 = true → F 83 = .int .i64 (m : Int)) ∧ (S 11 = true → F 84 = .agg #[.int .i64 ((m : Int) % 4), .int .i64 ((m : Int) / 4 % 4)]) ∧ (S 12 = true → F 85 = .agg #[.int .i64 ((lJoin l121 ⟨(m : Int) % 4, (m : Int) / 4 % 4⟩).s), .int .i64 ((lJoin l121 ⟨(m : Int) % 4, (m : Int) / 4 % 4⟩).v)]) ∧ (S 13 = true → F 86 = .slice a376 ((runLow (tabT ms117) cs120 (lJoin l121 ⟨(m : Int) % 4, (m : Int) / 4 % 4⟩)).length) cap377) ∧ (S 14 = true → F 87 = .int .i64 ((runLow (tabT ms117) cs120 (lJoin l121 ⟨(m : Int) % 4, (m : Int) / 4 % 4⟩)).length : Int)) ∧ (S 15 = true → F 88 = .slice a141 ((runLow (tabT ms117) cs120 l121).length) cap142) ∧ (S 16 = true → F 89 = .int .i64 ((runLow (tabT ms117) cs120 l121).length : Int))) mixed_ (by kernel_rfl) ⟨none, 0, grown_drew _, e219, e220, e221, e222, e223, e224, fun h => not_begun h, fun h => not_begun h, fun h => not_begun h, fun h => not_begun h, fun h => not_begun h, fun h => not_begun h, fun h => not_begun h, fun h => not_begun h, fun h => not_begun h, fun h => not_begun h, fun h => not_begun h, fun h => not_begun h, fun h => not_begun h, fun h => not_begun h, fun h => not_begun h, fun h => not_begun h, fun h => not_begun h⟩ ?_ ?_
      ·
       refine preL_cons (fun S F w385 hS hbef hcl hI => ?_) ?_
       ·
        obtain ⟨a376, cap377, hi386, e387, e388, e389, e390, e391, e392, c_0, c_1, c_2, c_3, c_4, c_5, c_6, c_7, c_8, c_9, c_10, c_11, c_12, c_13, c_14, c_15, c_16⟩ := hI
        have hb393 := low0 hb216 hi386
        refine wpo_move (v := .slice a202 ((runLow (tabT ms117) cs120 l121).length) cap203) e392 rfl ?_
        exact wpo_nil ⟨a376, cap377, hi386, e387, e388, e389, e390, e391, e392, fun _ => rfl, fun h => undone 1 hS hcl rfl h, c_2, c_3, fun h => undone 4 hS hcl rfl h, fun h => undone 5 hS hcl rfl h, fun h => undone 6 hS hcl rfl h, fun h => undone 7 hS hcl rfl h, fun h => undone 8 hS hcl rfl h, fun h => undone 9 hS hcl rfl h, fun h => undone 10 hS hcl rfl h, fun h => undone 11 hS hcl rfl h, fun h => undone 12 hS hcl rfl h, fun h => undone 13 hS hcl rfl h, fun h => undone 14 hS hcl rfl h, fun h => undone 15 hS hcl rfl h, fun h => undone 16 hS hcl rfl h⟩
       refine preL_cons (fun S F w394 hS hbef hcl hI => ?_) ?_
       ·
        obtain ⟨a376, cap377, hi395, e396, e397, e398, e399, e400, e401, c_0, c_1, c_2, c_3, c_4, c_5, c_6, c_7, c_8, c_9, c_10, c_11, c_12, c_13, c_14, c_15, c_16⟩ := hI
        have hb402 := low0 hb216 hi395
        obtain e403 := c_0 (ready_of 0 hbef rfl)
        refine wpo_len (by kernel_rfl) e403 rfl ?_
        exact wpo_nil ⟨a376, cap377, hi395, e396, e397, e398, e399, e400, e401, c_0, fun _ => rfl, c_2, c_3, fun h => undone 4 hS hcl rfl h, fun h => undone 5 hS hcl rfl h, fun h => undone 6 hS hcl rfl h, fun h => undone 7 hS hcl rfl h, fun h => undone 8 hS hcl rfl h, fun h => undone 9 hS hcl rfl h, fun h => undone 10 hS hcl rfl h, fun h => undone 11 hS hcl rfl h, fun h => undone 12 hS hcl rfl h, fun h => undone 13 hS hcl rfl h, fun h => undone 14 hS hcl rfl h, fun h => undone 15 hS hcl rfl h, fun h => undone 16 hS hcl rfl h⟩
       refine preL_cons (fun S F w404 hS hbef hcl hI => ?_) ?_
       ·
        obtain ⟨a376, cap377, hi405, e406, e407, e408, e409, e410, e411, c_0, c_1, c_2, c_3, c_4, c_5, c_6, c_7, c_8, c_9, c_10, c_11, c_12, c_13, c_14, c_15, c_16⟩ := hI
        have hb412 := low0 hb216 hi405
        refine wpo_move (v := .slice a141 ((runLow (tabT ms117) cs120 l121).length) cap142) e410 rfl ?_
        exact wpo_nil ⟨a376, cap377, hi405, e406, e407, e408, e409, e410, e411, c_0, c_1, fun _ => rfl, fun h => undone 3 hS hcl rfl h, fun h => undone 4 hS hcl rfl h, fun h => undone 5 hS hcl rfl h, fun h => undone 6 hS hcl rfl h, fun h => undone 7 hS hcl rfl h, fun h => undone 8 hS hcl rfl h, fun h => undone 9 hS hcl rfl h, fun h => undone 10 hS hcl rfl h, fun h => undone 11 hS hcl rfl h, fun h => undone 12 hS hcl rfl h, fun h => undone 13 hS hcl rfl h, fun h => undone 14 hS hcl rfl h, fun h => undone 15 hS hcl rfl h, fun h => undone 16 hS hcl rfl h⟩
       refine preL_cons (fun S F w413 hS hbef hcl hI => ?_) ?_
       ·
        obtain ⟨a376, cap377, hi414, e415, e416, e417, e418, e419, e420, c_0, c_1, c_2, c_3, c_4, c_5, c_6, c_7, c_8, c_9, c_10, c_11, c_12, c_13, c_14, c_15, c_16⟩ := hI
        have hb421 := low0 hb216 hi414
        obtain e422 := c_2 (ready_of 2 hbef rfl)
        refine wpo_len (by kernel_rfl) e422 rfl ?_
        exact wpo_nil ⟨a376, cap377, hi414, e415, e416, e417, e418, e419, e420, c_0, c_1, c_2, fun _ => rfl, fun h => undone 4 hS hcl rfl h, fun h => undone 5 hS hcl rfl h, fun h => undone 6 hS hcl rfl h, fun h => undone 7 hS hcl rfl h, fun h => undone 8 hS hcl rfl h, fun h => undone 9 hS hcl rfl h, fun h => undone 10 hS hcl rfl h, fun h => undone 11 hS hcl rfl h, fun h => undone 12 hS hcl rfl h, fun h => undone 13 hS hcl rfl h, fun h => undone 14 hS hcl rfl h, fun h => undone 15 hS hcl rfl h, fun h => undone 16 hS hcl rfl h⟩
       refine preL_cons (fun S F w423 hS hbef hcl hI => ?_) ?_
       ·
        obtain ⟨a376, cap377, hi424, e425, e426, e427, e428, e429, e430, c_0, c_1, c_2, c_3, c_4, c_5, c_6, c_7, c_8, c_9, c_10, c_11, c_12, c_13, c_14, c_15, c_16⟩ := hI
        have hb431 := low0 hb216 hi424
        obtain e432 := c_0 (ready_of 0 hbef rfl)
        obtain e433 := c_1 (ready_of 1 hbef rfl)
        obtain e434 := c_2 (ready_of 2 hbef rfl)
        obtain e435 := c_3 (ready_of 3 hbef rfl)
        refine wpo_eql (q := true) e433 e435 (by simp) rfl ?_
        exact wpo_nil ⟨a376, cap377, hi424, e425, e426, e427, e428, e429, e430, c_0, c_1, c_2, c_3, fun _ => rfl, fun h => undone 5 hS hcl rfl h, fun h => undone 6 hS hcl rfl h, fun h => undone 7 hS hcl rfl h, fun h => undone 8 hS hcl rfl h, fun h => undone 9 hS hcl rfl h, fun h => undone 10 hS hcl rfl h, fun h => undone 11 hS hcl rfl h, fun h => undone 12 hS hcl rfl h, fun h => undone 13 hS hcl rfl h, fun h => undone 14 hS hcl rfl h, fun h => undone 15 hS hcl rfl h, fun h => undone 16 hS hcl rfl h⟩
       refine preL_cons (fun S F w436 hS hbef hcl hI => ?_) ?_
       ·
        obtain ⟨a376, cap377, hi437, e438, e439, e440, e441, e442, e443, c_0, c_1, c_2, c_3, c_4, c_5, c_6, c_7, c_8, c_9, c_10, c_11, c_12, c_13, c_14, c_15, c_16⟩ := hI
        have hb444 := low0 hb216 hi437
        obtain e445 := c_0 (ready_of 0 hbef rfl)
        obtain e446 := c_1 (ready_of 1 hbef rfl)
        obtain e447 := c_2 (ready_of 2 hbef rfl)
        obtain e448 := c_3 (ready_of 3 hbef rfl)
        obtain e449 := c_4 (ready_of 4 hbef rfl)
        refine wpo_move (v := .bool true) e449 rfl ?_
        exact wpo_nil ⟨a376, cap377, hi437, e438, e439, e440, e441, e442, e443, c_0, c_1, c_2, c_3, c_4, fun _ => rfl, fun h => undone 6 hS hcl rfl h, fun h => undone 7 hS hcl rfl h, fun h => undone 8 hS hcl rfl h, fun h => undone 9 hS hcl rfl h, fun h => undone 10 hS hcl rfl h, fun h => undone 11 hS hcl rfl h, fun h => undone 12 hS hcl rfl h, fun h => undone 13 hS hcl rfl h, fun h => undone 14 hS hcl rfl h, fun h => undone 15 hS hcl rfl h, fun h => undone 16 hS hcl rfl h⟩
       refine preL_cons (fun S F w450 hS hbef hcl hI => ?_) ?_
       ·
        obtain ⟨a376, cap377, hi451, e452, e453, e454, e455, e456, e457, c_0, c_1, c_2, c_3, c_4, c_5, c_6, c_7, c_8, c_9, c_10, c_11, c_12, c_13, c_14, c_15, c_16⟩ := hI
        have hb458 := low0 hb216 hi451
        obtain e459 := c_0 (ready_of 0 hbef rfl)
        obtain e460 := c_1 (ready_of 1 hbef rfl)
        obtain e461 := c_2 (ready_of 2 hbef rfl)
        obtain e462 := c_3 (ready_of 3 hbef rfl)
        obtain e463 := c_4 (ready_of 4 hbef rfl)
        obtain e464 := c_5 (ready_of 5 hbef rfl)
        refine wpo_run rfl rfl e464 rfl ?_
        refine wpo_move (v := .slice (some ⟨B115, 0, none⟩) ms117.length cap116) e453 rfl ?_
        exact wpo_nil ⟨a376, cap377, hi451, e452, e453, e454, e455, e456, e457, c_0, c_1, c_2, c_3, c_4, c_5, fun _ => rfl, c_7, c_8, c_9, c_10, c_11, c_12, fun h => undone 13 hS hcl rfl h, fun h => undone 14 hS hcl rfl h, c_15, c_16⟩
       refine preL_cons (fun S F w465 hS hbef hcl hI => ?_) ?_
       ·
        obtain ⟨a376, cap377, hi466, e467, e468, e469, e470, e471, e472, c_0, c_1, c_2, c_3, c_4, c_5, c_6, c_7, c_8, c_9, c_10, c_11, c_12, c_13, c_14, c_15, c_16⟩ := hI
        have hb473 := low0 hb216 hi466
        obtain e474 := c_0 (ready_of 0 hbef rfl)
        obtain e475 := c_1 (ready_of 1 hbef rfl)
        obtain e476 := c_2 (ready_of 2 hbef rfl)
        obtain e477 := c_3 (ready_of 3 hbef rfl)
        obtain e478 := c_4 (ready_of 4 hbef rfl)
        obtain e479 := c_5 (ready_of 5 hbef rfl)
        refine wpo_run rfl rfl e479 rfl ?_
        refine wpo_move (v := .slice (some ⟨B118, 0, none⟩) cs120.length cap119) e469 rfl ?_
        exact wpo_nil ⟨a376, cap377, hi466, e467, e468, e469, e470, e471, e472, c_0, c_1, c_2, c_3, c_4, c_5, c_6, fun _ => rfl, c_8, c_9, c_10, c_11, c_12, fun h => undone 13 hS hcl rfl h, fun h => undone 14 hS hcl rfl h, c_15, c_16⟩
       refine preL_cons (fun S F w480 hS hbef hcl hI => ?_) ?_
       ·
        obtain ⟨a376, cap377, hi481, e482, e483, e484, e485, e486, e487, c_0, c_1, c_2, c_3, c_4, c_5, c_6, c_7, c_8, c_9, c_10, c_11, c_12, c_13, c_14, c_15, c_16⟩ := hI
        have hb488 := low0 hb216 hi481
        obtain e489 := c_0 (ready_of 0 hbef rfl)
        obtain e490 := c_1 (ready_of 1 hbef rfl)
        obtain e491 := c_2 (ready_of 2 hbef rfl)
        obtain e492 := c_3 (ready_of 3 hbef rfl)
        obtain e493 := c_4 (ready_of 4 hbef rfl)
        obtain e494 := c_5 (ready_of 5 hbef rfl)
        refine wpo_run rfl rfl e494 rfl ?_
        have k495 := (k226.grown0 hi481)
        refine wpo_loadn (vs := [.int .i64 l121.s, .int .i64 l121.v]) rt_40 e485 rfl (k495.rangeL 0 2 rfl) rfl ?_
        exact wpo_nil ⟨a376, cap377, hi481, e482, e483, e484, e485, e486, e487, c_0, c_1, c_2, c_3, c_4, c_5, c_6, c_7, fun _ => rfl, c_9, c_10, c_11, fun h => undone 12 hS hcl rfl h, fun h => undone 13 hS hcl rfl h, fun h => undone 14 hS hcl rfl h, c_15, c_16⟩
       refine preL_cons (fun S F w496 hS hbef hcl hI => ?_) ?_
       ·
        obtain ⟨a376, cap377, hi497, e498, e499, e500, e501, e502, e503, c_0, c_1, c_2, c_3, c_4, c_5, c_6, c_7, c_8, c_9, c_10, c_11, c_12, c_13, c_14, c_15, c_16⟩ := hI
        have hb504 := low0 hb216 hi497
        obtain e505 := c_0 (ready_of 0 hbef rfl)
        obtain e506 := c_1 (ready_of 1 hbef rfl)
        obtain e507 := c_2 (ready_of 2 hbef rfl)
        obtain e508 := c_3 (ready_of 3 hbef rfl)
        obtain e509 := c_4 (ready_of 4 hbef rfl)
        obtain e510 := c_5 (ready_of 5 hbef rfl)
        refine wpo_run rfl rfl e510 rfl ?_
        refine wpo_move (v := .slice a2 m c2) e498 rfl ?_
        exact wpo_nil ⟨a376, cap377, hi497, e498, e499, e500, e501, e502, e503, c_0, c_1, c_2, c_3, c_4, c_5, c_6, c_7, c_8, fun _ => rfl, fun h => undone 10 hS hcl rfl h, fun h => undone 11 hS hcl rfl h, fun h => undone 12 hS hcl rfl h, fun h => undone 13 hS hcl rfl h, fun h => undone 14 hS hcl rfl h, c_15, c_16⟩
       refine preL_cons (fun S F w511 hS hbef hcl hI => ?_) ?_
       ·
        obtain ⟨a376, cap377, hi512, e513, e514, e515, e516, e517, e518, c_0, c_1, c_2, c_3, c_4, c_5, c_6, c_7, c_8, c_9, c_10, c_11, c_12, c_13, c_14, c_15, c_16⟩ := hI
        have hb519 := low0 hb216 hi512
        obtain e520 := c_0 (ready_of 0 hbef rfl)
        obtain e521 := c_1 (ready_of 1 hbef rfl)
        obtain e522 := c_2 (ready_of 2 hbef rfl)
        obtain e523 := c_3 (ready_of 3 hbef rfl)
        obtain e524 := c_4 (ready_of 4 hbef rfl)
        obtain e525 := c_5 (ready_of 5 hbef rfl)
        obtain e526 := c_9 (ready_of 9 hbef rfl)
        refine wpo_run rfl rfl e525 rfl ?_
        refine wpo_len (by kernel_rfl) e526 rfl ?_
        exact wpo_nil ⟨a376, cap377, hi512, e513, e514, e515, e516, e517, e518, c_0, c_1, c_2, c_3, c_4, c_5, c_6, c_7, c_8, c_9, fun _ => rfl, fun h => undone 11 hS hcl rfl h, fun h => undone 12 hS hcl rfl h, fun h => undone 13 hS hcl rfl h, fun h => undone 14 hS hcl rfl h, c_15, c_16⟩
       refine preL_cons (fun S F w527 hS hbef hcl hI => ?_) ?_
       ·
        obtain ⟨a376, cap377, hi528, e529, e530, e531, e532, e533, e534, c_0, c_1, c_2, c_3, c_4, c_5, c_6, c_7, c_8, c_9, c_10, c_11, c_12, c_13, c_14, c_15, c_16⟩ := hI
        have hb535 := low0 hb216 hi528
        obtain e536 := c_0 (ready_of 0 hbef rfl)
        obtain e537 := c_1 (ready_of 1 hbef rfl)
        obtain e538 := c_2 (ready_of 2 hbef rfl)
        obtain e539 := c_3 (ready_of 3 hbef rfl)
        obtain e540 := c_4 (ready_of 4 hbef rfl)
        obtain e541 := c_5 (ready_of 5 hbef rfl)
        obtain e542 := c_9 (ready_of 9 hbef rfl)
        obtain e543 := c_10 (ready_of 10 hbef rfl)
        refine wpo_run rfl rfl e541 rfl ?_
        refine wpo_call (vs := [.int .i64 (m : Int)]) gf_53 (args_cons e543 args_nil) rfl (ldLabel_c (m : Int) (by omega) _) ?_
        rintro _ w544 ⟨rfl, hg545⟩
        have hb546 := low0 hb535 hg545
        exact wpo_nil ⟨a376, cap377, (low0 hi528 hg545), e529, e530, e531, e532, e533, e534, c_0, c_1, c_2, c_3, c_4, c_5, c_6, c_7, c_8, c_9, c_10, fun _ => rfl, fun h => undone 12 hS hcl rfl h, fun h => undone 13 hS hcl rfl h, fun h => undone 14 hS hcl rfl h, c_15, c_16⟩
       refine preL_cons (fun S F w547 hS hbef hcl hI => ?_) ?_
       ·
        obtain ⟨a376, cap377, hi548, e549, e550, e551, e552, e553, e554, c_0, c_1, c_2, c_3, c_4, c_5, c_6, c_7, c_8, c_9, c_10, c_11, c_12, c_13, c_14, c_15, c_16⟩ := hI
        have hb555 := low0 hb216 hi548
        obtain e556 := c_0 (ready_of 0 hbef rfl)
        obtain e557 := c_1 (ready_of 1 hbef rfl)
        obtain e558 := c_2 (ready_of 2 hbef rfl)
        obtain e559 := c_3 (ready_of 3 hbef rfl)
        obtain e560 := c_4 (ready_of 4 hbef rfl)
        obtain e561 := c_5 (ready_of 5 hbef rfl)
        obtain e562 := c_8 (ready_of 8 hbef rfl)
        obtain e563 := c_9 (ready_of 9 hbef rfl)
        obtain e564 := c_10 (ready_of 10 hbef rfl)
        obtain e565 := c_11 (ready_of 11 hbef rfl)
        refine wpo_run rfl rfl e561 rfl ?_
        refine wpo_call (vs := [.agg #[.int .i64 l121.s, .int .i64 l121.v], .agg #[.int .i64 ((m : Int) % 4), .int .i64 ((m : Int) / 4 % 4)]]) gf_52 (args_cons e562 (args_cons e565 args_nil)) rfl (LabelJoin_c l121 ⟨(m : Int) % 4, (m : Int) / 4 % 4⟩ _) ?_
        rintro _ w566 ⟨rfl, hg567⟩
        have hb568 := low0 hb555 hg567
        exact wpo_nil ⟨a376, cap377, (low0 hi548 hg567), e549, e550, e551, e552, e553, e554, c_0, c_1, c_2, c_3, c_4, c_5, c_6, c_7, c_8, c_9, c_10, c_11, fun _ => rfl, fun h => undone 13 hS hcl rfl h, fun h => undone 14 hS hcl rfl h, c_15, c_16⟩
       refine preL_cons (fun S F w569 hS hbef hcl hI => ?_) ?_
       ·
        obtain ⟨a376, cap377, hi570, e571, e572, e573, e574, e575, e576, c_0, c_1, c_2, c_3, c_4, c_5, c_6, c_7, c_8, c_9, c_10, c_11, c_12, c_13, c_14, c_15, c_16⟩ := hI
        have hb577 := low0 hb216 hi570
        obtain e578 := c_0 (ready_of 0 hbef rfl)
        obtain e579 := c_1 (ready_of 1 hbef rfl)
        obtain e580 := c_2 (ready_of 2 hbef rfl)
        obtain e581 := c_3 (ready_of 3 hbef rfl)
        obtain e582 := c_4 (ready_of 4 hbef rfl)
        obtain e583 := c_5 (ready_of 5 hbef rfl)
        obtain e584 := c_6 (ready_of 6 hbef rfl)
        obtain e585 := c_7 (ready_of 7 hbef rfl)
        obtain e586 := c_8 (ready_of 8 hbef rfl)
        obtain e587 := c_9 (ready_of 9 hbef rfl)
        obtain e588 := c_10 (ready_of 10 hbef rfl)
        obtain e589 := c_11 (ready_of 11 hbef rfl)
        obtain e590 := c_12 (ready_of 12 hbef rfl)
        refine wpo_run rfl rfl e583 rfl ?_
        have hTG591 := (TabG.low hGl hi570)
        have k592 := (k225.grown0 hi570)
        have k593 := (k226.grown0 hi570)
        have ltw_B118_w569 := (k592).lt
        have ltw_B133_w569 := (k593).lt
        refine wpo_call (vs := [.slice (some ⟨B115, 0, none⟩) ms117.length cap116, .slice (some ⟨B118, 0, none⟩) cs120.length cap119, .agg #[.int .i64 ((lJoin l121 ⟨(m : Int) % 4, (m : Int) / 4 % 4⟩).s), .int .i64 ((lJoin l121 ⟨(m : Int) % 4, (m : Int) / 4 % 4⟩).v)]]) gf_47 (args_cons e584 (args_cons e585 (args_cons e590 args_nil))) rfl (RunLow_c (lJoin l121 ⟨(m : Int) % 4, (m : Int) / 4 % 4⟩) _ ms117 _ _ (TabG.at hTG591) hTl132 (by omega) cs120 _ _ (Own.sl wide_cl k592) (by first | omega | exact Nat.le_of_ble_eq_true rfl | (simp only [List.length_nil, List.length_cons, List.length_append, List.length_replicate]; omega))) ?_
        rintro _ w599 ⟨a594, cap595, rfl, hO597, hg598⟩
        have hb600 := low0 hb577 hg598
        have hrn601 := runLow_len (tabT ms117) cs120 (lJoin l121 ⟨(m : Int) % 4, (m : Int) / 4 % 4⟩)
        have hlw602 : w.heap.size ≤ w569.heap.size := hb577.size
        exact wpo_nil ⟨a594, cap595, (low0 hi570 hg598), e571, e572, e573, e574, e575, e576, c_0, c_1, c_2, c_3, c_4, c_5, c_6, c_7, c_8, c_9, c_10, c_11, c_12, fun _ => rfl, fun h => undone 14 hS hcl rfl h, c_15, c_16⟩
       refine preL_cons (fun S F w603 hS hbef hcl hI => ?_) ?_
       ·
        obtain ⟨a376, cap377, hi604, e605, e606, e607, e608, e609, e610, c_0, c_1, c_2, c_3, c_4, c_5, c_6, c_7, c_8, c_9, c_10, c_11, c_12, c_13, c_14, c_15, c_16⟩ := hI
        have hb611 := low0 hb216 hi604
        obtain e612 := c_0 (ready_of 0 hbef rfl)
        obtain e613 := c_1 (ready_of 1 hbef rfl)
        obtain e614 := c_2 (ready_of 2 hbef rfl)
        obtain e615 := c_3 (ready_of 3 hbef rfl)
        obtain e616 := c_4 (ready_of 4 hbef rfl)
        obtain e617 := c_5 (ready_of 5 hbef rfl)
        obtain e618 := c_6 (ready_of 6 hbef rfl)
        obtain e619 := c_7 (ready_of 7 hbef rfl)
        obtain e620 := c_8 (ready_of 8 hbef rfl)
        obtain e621 := c_9 (ready_of 9 hbef rfl)
        obtain e622 := c_10 (ready_of 10 hbef rfl)
        obtain e623 := c_11 (ready_of 11 hbef rfl)
        obtain e624 := c_12 (ready_of 12 hbef rfl)
        obtain e625 := c_13 (ready_of 13 hbef rfl)
        refine wpo_run rfl rfl e617 rfl ?_
        refine wpo_len (by kernel_rfl) e625 rfl ?_
        exact wpo_nil ⟨a376, cap377, hi604, e605, e606, e607, e608, e609, e610, c_0, c_1, c_2, c_3, c_4, c_5, c_6, c_7, c_8, c_9, c_10, c_11, c_12, c_13, fun _ => rfl, c_15, c_16⟩
       refine preL_cons (fun S F w626 hS hbef hcl hI => ?_) ?_
       ·
        obtain ⟨a376, cap377, hi627, e628, e629, e630, e631, e632, e633, c_0, c_1, c_2, c_3, c_4, c_5, c_6, c_7, c_8, c_9, c_10, c_11, c_12, c_13, c_14, c_15, c_16⟩ := hI
        have hb634 := low0 hb216 hi627
        obtain e635 := c_0 (ready_of 0 hbef rfl)
        obtain e636 := c_1 (ready_of 1 hbef rfl)
        obtain e637 := c_2 (ready_of 2 hbef rfl)
        obtain e638 := c_3 (ready_of 3 hbef rfl)
        obtain e639 := c_4 (ready_of 4 hbef rfl)
        obtain e640 := c_5 (ready_of 5 hbef rfl)
        refine wpo_run rfl rfl e640 rfl ?_
        refine wpo_move (v := .slice a141 ((runLow (tabT ms117) cs120 l121).length) cap142) e632 rfl ?_
        exact wpo_nil ⟨a376, cap377, hi627, e628, e629, e630, e631, e632, e633, c_0, c_1, c_2, c_3, c_4, c_5, c_6, c_7, c_8, c_9, c_10, c_11, c_12, c_13, c_14, fun _ => rfl, fun h => undone 16 hS hcl rfl h⟩
       refine preL_cons (fun S F w641 hS hbef hcl hI => ?_) ?_
       ·
        obtain ⟨a376, cap377, hi642, e643, e644, e645, e646, e647, e648, c_0, c_1, c_2, c_3, c_4, c_5, c_6, c_7, c_8, c_9, c_10, c_11, c_12, c_13, c_14, c_15, c_16⟩ := hI
        have hb649 := low0 hb216 hi642
        obtain e650 := c_0 (ready_of 0 hbef rfl)
        obtain e651 := c_1 (ready_of 1 hbef rfl)
        obtain e652 := c_2 (ready_of 2 hbef rfl)
        obtain e653 := c_3 (ready_of 3 hbef rfl)
        obtain e654 := c_4 (ready_of 4 hbef rfl)
        obtain e655 := c_5 (ready_of 5 hbef rfl)
        obtain e656 := c_15 (ready_of 15 hbef rfl)
        refine wpo_run rfl rfl e655 rfl ?_
        refine wpo_len (by kernel_rfl) e656 rfl ?_
        exact wpo_nil ⟨a376, cap377, hi642, e643, e644, e645, e646, e647, e648, c_0, c_1, c_2, c_3, c_4, c_5, c_6, c_7, c_8, c_9, c_10, c_11, c_12, c_13, c_14, c_15, fun _ => rfl⟩
       exact preL_nil
      ·
       intro S F w657 hall hI
       obtain ⟨a376, cap377, hi658, e659, e660, e661, e662, e663, e664, c_0, c_1, c_2, c_3, c_4, c_5, c_6, c_7, c_8, c_9, c_10, c_11, c_12, c_13, c_14, c_15, c_16⟩ := hI
       have hb665 := low0 hb216 hi658
       obtain e666 := c_0 (hall 0 (by decide))
       obtain e667 := c_1 (hall 1 (by decide))
       obtain e668 := c_2 (hall 2 (by decide))
       obtain e669 := c_3 (hall 3 (by decide))
       obtain e670 := c_4 (hall 4 (by decide))
       obtain e671 := c_5 (hall 5 (by decide))
       obtain e672 := c_6 (hall 6 (by decide))
       obtain e673 := c_7 (hall 7 (by decide))
       obtain e674 := c_8 (hall 8 (by decide))
       obtain e675 := c_9 (hall 9 (by decide))
       obtain e676 := c_10 (hall 10 (by decide))
       obtain e677 := c_11 (hall 11 (by decide))
       obtain e678 := c_12 (hall 12 (by decide))
       obtain e679 := c_13 (hall 13 (by decide))
       obtain e680 := c_14 (hall 14 (by decide))
       obtain e681 := c_15 (hall 15 (by decide))
       obtain e682 := c_16 (hall 16 (by decide))
       refine wpo_run rfl rfl e671 rfl ?_
       refine wpo_geq (q := decide (((runLow (tabT ms117) cs120 l121).length : Int) ≤ ((runLow (tabT ms117) cs120 (lJoin l121 ⟨(m : Int) % 4, (m : Int) / 4 % 4⟩)).length : Int))) e680 e682 rfl rfl ?_
       refine wpo_pickt (v := .bool (decide (((runLow (tabT ms117) cs120 l121).length : Int) ≤ ((runLow (tabT ms117) cs120 (lJoin l121 ⟨(m : Int) % 4, (m : Int) / 4 % 4⟩)).length : Int)))) e671 rfl rfl rfl ?_
       refine wpo_assign (v := .bool (decide (((runLow (tabT ms117) cs120 l121).length : Int) ≤ ((runLow (tabT ms117) cs120 (lJoin l121 ⟨(m : Int) % 4, (m : Int) / 4 % 4⟩)).length : Int)))) rfl rfl ?_
       refine wpo_nil ?_
       refine thn_n ?_
       refine wpf_ret ?_
       refine ⟨.bool (decide (((runLow (tabT ms117) cs120 l121).length : Int) ≤ ((runLow (tabT ms117) cs120 (lJoin l121 ⟨(m : Int) % 4, (m : Int) / 4 % 4⟩)).length : Int))), res1 rfl rfl, ?_, hb665⟩
       exact congrArg Value.bool (decide_eq_true (Int.ofNat_le.2 (low_more h198 (labelOk_mod m))))
end Go.Proofs.Ytlkmdoebmklbbaa
