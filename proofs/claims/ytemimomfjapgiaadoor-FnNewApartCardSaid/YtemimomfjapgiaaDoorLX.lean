/- Walks, printed by a program of mine (gen.py) out of the functions. -/
import Derived.Test.YtemimomfjapgiaaDoorST3
import Derived.Test.YtemimomfjapgiaaDoorNX
namespace Go.Proofs.YtemimomfjapgiaaDoor
open Go.RowKit Go.Dw
set_option maxRecDepth 100000
set_option maxHeartbeats 4000000
set_option linter.unusedSimpArgs false
set_option linter.unusedVariables false
theorem gf_11 : goFn Tryd.prog 11 = true := by kernel_rfl
theorem gf_12 : goFn Tryd.prog 12 = true := by kernel_rfl
theorem gf_13 : goFn Tryd.prog 13 = true := by kernel_rfl
theorem gf_24 : goFn Tryd.prog 24 = true := by kernel_rfl
theorem gf_5 : goFn Tryd.prog 5 = true := by kernel_rfl
theorem gf_6 : goFn Tryd.prog 6 = true := by kernel_rfl
theorem gf_7 : goFn Tryd.prog 7 = true := by kernel_rfl
theorem gf_8 : goFn Tryd.prog 8 = true := by kernel_rfl
theorem gf_9 : goFn Tryd.prog 9 = true := by kernel_rfl
theorem DrawTableText_c (bs : List Int) (a : Option Addr) (c : Nat) (w : World) (hs0 : SlAt w a 1 (bs.map bcell)) (hb : ∀ b ∈ bs, 0 ≤ b ∧ b ≤ 255) (hn : bs.length ≤ 1048576) (hc : bs.length ≤ c) : CallsR Tryd.prog 5 #[.slice a bs.length c] w (fun v w' => ∃ (B cap : Nat) (ms : List MTh), v = .slice (some ⟨B, 0, none⟩) ms.length cap ∧ TabG w.heap.size w' (some ⟨B, 0, none⟩) ms ∧ Small ms ∧ (3 ≤ ms.length ∧ ms.length ≤ 8) ∧ w.grownBy w' none) := by
 refine calls_of_wpf (n := 6) Tryd.func5 rfl Tryd.ntmps5 rfl ?_
 have hb0 := World.grownBy.refl w none
 have hs := SlAt.lt wide_b (by omega) hs0
 refine wpf_seq_region ?_
 refine wpo_assign (v := .slice none 0 0) rfl rfl ?_
 refine wpo_nil ?_
 refine wpf_seq_region ?_
 refine wpo_move (v := .slice a bs.length c) rfl rfl ?_
 refine wpo_call (vs := [.slice a bs.length c]) gf_13 (args_cons rfl args_nil) rfl (l6Open_c bs a c _ (by omega) (by omega)) ?_
 rintro _ w105 ⟨R101, rfl, hge102, kR103, hg104⟩
 have hb106 := low0 hb0 hg104
 have hlR101 := Nat.le_trans hb0.size hge102
 have hlt107 := (kR103).lt
 refine wpo_call (vs := [.pointer (some ⟨R101, 0, none⟩)]) gf_12 (args_cons rfl args_nil) rfl (l71Fine_c 0 (by omega) _ R101 (bs.take 2000) _ _ _ kR103 (by omega) (SlLt.low0 (SlLt.take hs 2000) hb106) (by first | exact hb | exact fun b h => hb b (List.mem_of_mem_take h)) (by first | omega | (rw [List.length_take]; omega))) ?_
 rintro _ w119 ⟨B108, cap109, ms110, p111, rfl, hTG112, hTS113, hTn114, hp115, hp116, kR117, hg118⟩
 have hb120 := low1 hb106 hg118 (by omega)
 have hTl121 := hTS113.len
 refine wpo_assign (v := .slice (some ⟨B108, 0, none⟩) ms110.length cap109) rfl rfl ?_
 refine wpo_nil ?_
 refine wpf_ret ?_
 exact ⟨.slice (some ⟨B108, 0, none⟩) ms110.length cap109, res1 rfl rfl, B108, cap109, ms110, rfl, (TabG.mono hTG112 hb106.size), hTS113, hTn114, hb120⟩

theorem ldLabel_c (n : Int) (hn : 0 ≤ n ∧ n ≤ 9223372036854775807) (w : World) : CallsR Tryd.prog 9 #[.int .i64 n] w (fun v w' => v = .agg #[.int .i64 (n % 4), .int .i64 (n / 4 % 4)] ∧ w.grownBy w' none) := by
 refine calls_of_wpf (n := 9) Tryd.func9 rfl Tryd.ntmps9 rfl ?_
 have hb0 := World.grownBy.refl w none
 refine wpf_seq_region ?_
 refine wpo_alloc (cs := #[.int .i64 0, .int .i64 0]) zt_27 rfl rfl ?_
 intro B101 w102 hN103
 have hlB101 := hN_ge hN103 hb0
 have hb104 := low0 hb0 hN103.grw
 refine wpo_nil ?_
 refine wpf_seq_region ?_
 refine wpo_move (v := .int .i64 n) rfl rfl ?_
 refine wpo_rem (c := n % 4) rfl rfl (by omega) (by omega) (by omega) rfl rfl ?_
 refine wpo_move (v := .int .i64 n) rfl rfl ?_
 refine wpo_quo (c := n / 4) rfl rfl (by omega) (by omega) (by omega) rfl rfl ?_
 refine wpo_rem (c := (n / 4) % 4) rfl rfl (by omega) (by omega) (by omega) rfl rfl ?_
 refine wpo_build (ps := [(0, .int .i64 (n % 4)), (1, .int .i64 ((n / 4) % 4))]) (v := .agg #[.int .i64 (n % 4), .int .i64 ((n / 4) % 4)]) (parts_cons rfl (parts_cons rfl parts_nil)) (by kernel_rfl) rfl ?_
 refine wpo_storen (vs := [.int .i64 (n % 4), .int .i64 ((n / 4) % 4)]) (cs' := #[.int .i64 (n % 4), .int .i64 ((n / 4) % 4)]) rt_27 rfl rfl rfl (by simp [Value.oneCell']) hN103.blk (Nat.le_of_ble_eq_true rfl) rfl ?_
 intro w105 hS106
 have hb107 := low1 hb104 hS106.grw (by omega)
 refine wpo_nil ?_
 refine wpf_ret ?_
 refine ⟨.agg #[.int .i64 (n % 4), .int .i64 ((n / 4) % 4)], resC rfl (resCell_mk (vs := [.int .i64 (n % 4), .int .i64 ((n / 4) % 4)]) rt_27 rfl rfl (hS106.blk.rangeL 0 2 rfl)), ?_, hb107⟩
 rfl

theorem rightLive_c (r : Rt) (hr : -9223372036854775807 ≤ r.th) (w : World) (ms : List MTh) (a : Option Addr) (c : Nat) (ht : TabAt w a ms) (hlen : TabLen ms) (hn : ms.length ≤ 1048576) : CallsR Tryd.prog 24 #[.slice a ms.length c, .agg #[.int .i64 r.th, .int .i64 r.ve, .bool r.rd, .bool r.wr, .bool r.wk]] w (fun v w' => v = .bool (live (tabT ms) r) ∧ w.grownBy w' none) := by
 refine calls_of_wpf (n := 21) Tryd.func24 rfl Tryd.ntmps24 rfl ?_
 have hb0 := World.grownBy.refl w none
 refine wpf_seq_region ?_
 refine wpo_box (v := .agg #[.int .i64 r.th, .int .i64 r.ve, .bool r.rd, .bool r.wr, .bool r.wk]) (cs := #[.int .i64 r.th, .int .i64 r.ve, .bool r.rd, .bool r.wr, .bool r.wk]) rfl rfl rfl ?_
 intro B101 w102 hN103
 have hlB101 := hN_ge hN103 hb0
 have hb104 := low0 hb0 hN103.grw
 refine wpo_assign (v := .bool false) rfl rfl ?_
 refine wpo_nil ?_
 refine wpf_seq_mid (fun f' w' => (f' 4 = .bool (inR r.th 1 (ms.length : Int) && (decide ((mAt ms ((r.th - 1).toNat)).t.ve = r.ve)))) ∧ w102.grownBy w' none) ?_ ?_
 ·
  rcases bcases (inR r.th 1 (ms.length : Int)) with h124 | h124
  ·
   have hr125 := inR_iff.1 h124
   obtain ⟨b145, q146, o147, ha148, ho149, hr150⟩ := SlAt.at (TabAt.low ht hb104).1 (map_get (mAt_get (show (r.th - 1).toNat < ms.length by omega)))
   have hle151 := TabLen.at hlen (mAt_get (show (r.th - 1).toNat < ms.length by omega))
   refine wpf_draw (m := 14) (vals := [(5, .slice a ms.length c), (6, .pointer (some ⟨B101, 0, none⟩)), (7, .int .i64 r.th), (8, .bool (inR r.th 1 (ms.length : Int))), (9, .bool (inR r.th 1 (ms.length : Int))), (10, .slice a ms.length c), (11, .pointer (some ⟨B101, 0, none⟩)), (12, .int .i64 r.th), (13, .int .i64 (r.th - 1)), (14, .pointer (some ⟨b145, o147, none⟩)), (15, .pointer (some ⟨b145, o147 + 3, none⟩)), (16, .int .i64 ((mAt ms ((r.th - 1).toNat)).t.ve)), (17, .pointer (some ⟨B101, 1, none⟩)), (18, .int .i64 r.ve)]) (fun w' => w102.grownBy w' none) mixed_ (by kernel_rfl) (grown_drew _) ?_ ?_
   ·
    refine yll_cons rfl (fun w157 hi158 => ?_) ?_
    ·
     have hb159 := low0 hb104 hi158
     refine wpo_move (v := .slice a ms.length c) rfl rfl ?_
     exact wpo_nil ⟨rfl, hi158⟩
    refine yll_cons rfl (fun w160 hi161 => ?_) ?_
    ·
     have hb162 := low0 hb104 hi161
     refine wpo_fieldAddr (o' := 0) fo_39_0 rfl rfl rfl ?_
     exact wpo_nil ⟨rfl, hi161⟩
    refine yll_cons rfl (fun w163 hi164 => ?_) ?_
    ·
     have hb165 := low0 hb104 hi164
     have k166 := (hN103.blk.grown0 hi164)
     refine wpo_load1 (v := .int .i64 r.th) ot_3 rfl (k166.cell rfl) rfl ?_
     exact wpo_nil ⟨rfl, hi164⟩
    refine yll_cons rfl (fun w167 hi168 => ?_) ?_
    ·
     have hb169 := low0 hb104 hi168
     refine wpo_call (vs := [.slice a ms.length c, .int .i64 r.th]) gf_22 (args_cons rfl (args_cons rfl args_nil)) rfl (thingExists_c r.th _ _ _ _) ?_
     rintro _ w170 ⟨rfl, hg171⟩
     have hb172 := low0 hb169 hg171
     exact wpo_nil ⟨rfl, (grown_trans hi168 hg171)⟩
    refine yll_cons rfl (fun w173 hi174 => ?_) ?_
    ·
     have hb175 := low0 hb104 hi174
     refine wpo_move (v := .bool (inR r.th 1 (ms.length : Int))) rfl rfl ?_
     exact wpo_nil ⟨rfl, hi174⟩
    refine yll_cons rfl (fun w176 hi177 => ?_) ?_
    ·
     have hb178 := low0 hb104 hi177
     refine wpo_run rfl rfl rfl h124 ?_
     refine wpo_move (v := .slice a ms.length c) rfl rfl ?_
     exact wpo_nil ⟨rfl, hi177⟩
    refine yll_cons rfl (fun w179 hi180 => ?_) ?_
    ·
     have hb181 := low0 hb104 hi180
     refine wpo_run rfl rfl rfl h124 ?_
     refine wpo_fieldAddr (o' := 0) fo_39_0 rfl rfl rfl ?_
     exact wpo_nil ⟨rfl, hi180⟩
    refine yll_cons rfl (fun w182 hi183 => ?_) ?_
    ·
     have hb184 := low0 hb104 hi183
     refine wpo_run rfl rfl rfl h124 ?_
     have k185 := (hN103.blk.grown0 hi183)
     refine wpo_load1 (v := .int .i64 r.th) ot_3 rfl (k185.cell rfl) rfl ?_
     exact wpo_nil ⟨rfl, hi183⟩
    refine yll_cons rfl (fun w186 hi187 => ?_) ?_
    ·
     have hb188 := low0 hb104 hi187
     refine wpo_run rfl rfl rfl h124 ?_
     refine wpo_sub (c := r.th - 1) rfl rfl (by omega) (by omega) (by omega) rfl ?_
     exact wpo_nil ⟨rfl, hi187⟩
    refine yll_cons rfl (fun w189 hi190 => ?_) ?_
    ·
     have hb191 := low0 hb104 hi190
     refine wpo_run rfl rfl rfl h124 ?_
     refine wpo_indexE es_23 rfl rfl ha148 ho149 (by omega) (by omega) rfl ?_
     exact wpo_nil ⟨rfl, hi190⟩
    refine yll_cons rfl (fun w192 hi193 => ?_) ?_
    ·
     have hb194 := low0 hb104 hi193
     refine wpo_run rfl rfl rfl h124 ?_
     refine wpo_fieldAddr (o' := o147 + 3) fo_31_2 rfl rfl rfl ?_
     exact wpo_nil ⟨rfl, hi193⟩
    refine yll_cons rfl (fun w195 hi196 => ?_) ?_
    ·
     have hb197 := low0 hb104 hi196
     refine wpo_run rfl rfl rfl h124 ?_
     refine wpo_load1 (v := .int .i64 ((mAt ms ((r.th - 1).toNat)).t.ve)) ot_3 rfl ((range_low hr150 hi196) 3 _ rfl) rfl ?_
     exact wpo_nil ⟨rfl, hi196⟩
    refine yll_cons rfl (fun w198 hi199 => ?_) ?_
    ·
     have hb200 := low0 hb104 hi199
     refine wpo_run rfl rfl rfl h124 ?_
     refine wpo_fieldAddr (o' := 1) fo_39_1 rfl rfl rfl ?_
     exact wpo_nil ⟨rfl, hi199⟩
    refine yll_cons rfl (fun w201 hi202 => ?_) ?_
    ·
     have hb203 := low0 hb104 hi202
     refine wpo_run rfl rfl rfl h124 ?_
     have k204 := (hN103.blk.grown0 hi202)
     refine wpo_load1 (v := .int .i64 r.ve) ot_3 rfl (k204.cell rfl) rfl ?_
     exact wpo_nil ⟨rfl, hi202⟩
    exact yll_nil
   ·
    intro w205 hi206
    have hb207 := low0 hb104 hi206
    refine wpo_run rfl rfl rfl h124 ?_
    refine wpo_eql (q := decide ((mAt ms ((r.th - 1).toNat)).t.ve = r.ve)) rfl rfl rfl rfl ?_
    refine wpo_pickt (v := .bool (decide ((mAt ms ((r.th - 1).toNat)).t.ve = r.ve))) rfl h124 rfl rfl ?_
    refine wpo_assign (v := .bool (decide ((mAt ms ((r.th - 1).toNat)).t.ve = r.ve))) rfl rfl ?_
    exact wpo_nil (thn_n ⟨(congrArg Value.bool (by first | (simp only [h124, b0, b1, b2, b3, b4, b5, b6, b7, b8, b9]; done) | simp [h124])), hi206⟩)
  ·
   refine wpf_draw (m := 14) (vals := [(5, .slice a ms.length c), (6, .pointer (some ⟨B101, 0, none⟩)), (7, .int .i64 r.th), (8, .bool (inR r.th 1 (ms.length : Int))), (9, .bool (inR r.th 1 (ms.length : Int))), (10, undef), (11, undef), (12, undef), (13, undef), (14, undef), (15, undef), (16, undef), (17, undef), (18, undef)]) (fun w' => w102.grownBy w' none) mixed_ (by kernel_rfl) (grown_drew _) ?_ ?_
   ·
    refine yll_cons rfl (fun w217 hi218 => ?_) ?_
    ·
     have hb219 := low0 hb104 hi218
     refine wpo_move (v := .slice a ms.length c) rfl rfl ?_
     exact wpo_nil ⟨rfl, hi218⟩
    refine yll_cons rfl (fun w220 hi221 => ?_) ?_
    ·
     have hb222 := low0 hb104 hi221
     refine wpo_fieldAddr (o' := 0) fo_39_0 rfl rfl rfl ?_
     exact wpo_nil ⟨rfl, hi221⟩
    refine yll_cons rfl (fun w223 hi224 => ?_) ?_
    ·
     have hb225 := low0 hb104 hi224
     have k226 := (hN103.blk.grown0 hi224)
     refine wpo_load1 (v := .int .i64 r.th) ot_3 rfl (k226.cell rfl) rfl ?_
     exact wpo_nil ⟨rfl, hi224⟩
    refine yll_cons rfl (fun w227 hi228 => ?_) ?_
    ·
     have hb229 := low0 hb104 hi228
     refine wpo_call (vs := [.slice a ms.length c, .int .i64 r.th]) gf_22 (args_cons rfl (args_cons rfl args_nil)) rfl (thingExists_c r.th _ _ _ _) ?_
     rintro _ w230 ⟨rfl, hg231⟩
     have hb232 := low0 hb229 hg231
     exact wpo_nil ⟨rfl, (grown_trans hi228 hg231)⟩
    refine yll_cons rfl (fun w233 hi234 => ?_) ?_
    ·
     have hb235 := low0 hb104 hi234
     refine wpo_move (v := .bool (inR r.th 1 (ms.length : Int))) rfl rfl ?_
     exact wpo_nil ⟨rfl, hi234⟩
    refine yll_cons rfl (fun w236 hi237 => ?_) ?_
    ·
     have hb238 := low0 hb104 hi237
     refine wpo_pass rfl rfl rfl h124 rfl ?_
     exact wpo_nil ⟨rfl, hi237⟩
    refine yll_cons rfl (fun w239 hi240 => ?_) ?_
    ·
     have hb241 := low0 hb104 hi240
     refine wpo_pass rfl rfl rfl h124 rfl ?_
     exact wpo_nil ⟨rfl, hi240⟩
    refine yll_cons rfl (fun w242 hi243 => ?_) ?_
    ·
     have hb244 := low0 hb104 hi243
     refine wpo_pass rfl rfl rfl h124 rfl ?_
     exact wpo_nil ⟨rfl, hi243⟩
    refine yll_cons rfl (fun w245 hi246 => ?_) ?_
    ·
     have hb247 := low0 hb104 hi246
     refine wpo_pass rfl rfl rfl h124 rfl ?_
     exact wpo_nil ⟨rfl, hi246⟩
    refine yll_cons rfl (fun w248 hi249 => ?_) ?_
    ·
     have hb250 := low0 hb104 hi249
     refine wpo_pass rfl rfl rfl h124 rfl ?_
     exact wpo_nil ⟨rfl, hi249⟩
    refine yll_cons rfl (fun w251 hi252 => ?_) ?_
    ·
     have hb253 := low0 hb104 hi252
     refine wpo_pass rfl rfl rfl h124 rfl ?_
     exact wpo_nil ⟨rfl, hi252⟩
    refine yll_cons rfl (fun w254 hi255 => ?_) ?_
    ·
     have hb256 := low0 hb104 hi255
     refine wpo_pass rfl rfl rfl h124 rfl ?_
     exact wpo_nil ⟨rfl, hi255⟩
    refine yll_cons rfl (fun w257 hi258 => ?_) ?_
    ·
     have hb259 := low0 hb104 hi258
     refine wpo_pass rfl rfl rfl h124 rfl ?_
     exact wpo_nil ⟨rfl, hi258⟩
    refine yll_cons rfl (fun w260 hi261 => ?_) ?_
    ·
     have hb262 := low0 hb104 hi261
     refine wpo_pass rfl rfl rfl h124 rfl ?_
     exact wpo_nil ⟨rfl, hi261⟩
    exact yll_nil
   ·
    intro w263 hi264
    have hb265 := low0 hb104 hi264
    refine wpo_pass rfl rfl rfl h124 rfl ?_
    refine wpo_pickf (v := .bool false) rfl h124 rfl rfl ?_
    refine wpo_assign (v := .bool false) rfl rfl ?_
    exact wpo_nil (thn_n ⟨(congrArg Value.bool (by first | (simp only [h124, b0, b1, b2, b3, b4, b5, b6, b7, b8, b9]; done) | simp [h124])), hi264⟩)
 ·
  rintro f266 w267 ⟨e268, hg269⟩
  have hb270 := low0 hb104 hg269
  refine wpf_ret ?_
  refine ⟨.bool (inR r.th 1 (ms.length : Int) && (decide ((mAt ms ((r.th - 1).toNat)).t.ve = r.ve))), res1 rfl e268, ?_, hb270⟩
  exact congrArg Value.bool live_m

theorem TableLive_c (r : Rt) (w : World) (ms : List MTh) (a : Option Addr) (c : Nat) (ht : TabAt w a ms) (hlen : TabLen ms) (hn : ms.length ≤ 1048576) : CallsR Tryd.prog 11 #[.slice a ms.length c, .agg #[.int .i64 r.th, .int .i64 r.ve, .bool r.rd, .bool r.wr, .bool r.wk]] w (fun v w' => v = .bool (tabLive (tabT ms) r) ∧ w.grownBy w' none) := by
 refine calls_of_wpf (n := 16) Tryd.func11 rfl Tryd.ntmps11 rfl ?_
 have hb0 := World.grownBy.refl w none
 refine wpf_seq_region ?_
 refine wpo_box (v := .agg #[.int .i64 r.th, .int .i64 r.ve, .bool r.rd, .bool r.wr, .bool r.wk]) (cs := #[.int .i64 r.th, .int .i64 r.ve, .bool r.rd, .bool r.wr, .bool r.wk]) rfl rfl rfl ?_
 intro B101 w102 hN103
 have hlB101 := hN_ge hN103 hb0
 have hb104 := low0 hb0 hN103.grw
 refine wpo_assign (v := .bool false) rfl rfl ?_
 refine wpo_nil ?_
 refine wpf_seq_region_mid (fun f' w' => (f' 4 = .bool ((tableOk (tabT ms) && rightOk r) && live (tabT ms) r)) ∧ w102.grownBy w' none) ?_ ?_
 ·
  refine wpo_move (v := .slice a ms.length c) rfl rfl ?_
  refine wpo_call (vs := [.slice a ms.length c]) gf_10 (args_cons rfl args_nil) rfl (TableOk_c  _ ms _ _ (TabAt.low ht hb104) hlen (by omega)) ?_
  rintro _ w119 ⟨rfl, hg120⟩
  have hb121 := low0 hb104 hg120
  refine wpo_move (v := .bool (tableOk (tabT ms))) rfl rfl ?_
  rcases bcases (tableOk (tabT ms)) with h122 | h122
  ·
   refine wpo_run rfl rfl rfl h122 ?_
   have k123 := (hN103.blk.grown0 hg120)
   refine wpo_loadn (vs := [.int .i64 r.th, .int .i64 r.ve, .bool r.rd, .bool r.wr, .bool r.wk]) rt_39 rfl rfl (k123.rangeL 0 5 rfl) rfl ?_
   refine wpo_run rfl rfl rfl h122 ?_
   refine wpo_call (vs := [.agg #[.int .i64 r.th, .int .i64 r.ve, .bool r.rd, .bool r.wr, .bool r.wk]]) gf_23 (args_cons rfl args_nil) rfl (RightOk_c r _) ?_
   rintro _ w124 ⟨rfl, hg125⟩
   have hb126 := low0 hb121 hg125
   refine wpo_pickt (v := .bool (rightOk r)) rfl h122 rfl rfl ?_
   refine wpo_move (v := .bool (rightOk r)) rfl rfl ?_
   rcases bcases (rightOk r) with h127 | h127
   ·
    have hrr := rightOk_th h127
    refine wpo_run rfl rfl rfl h127 ?_
    refine wpo_move (v := .slice a ms.length c) rfl rfl ?_
    refine wpo_run rfl rfl rfl h127 ?_
    have k128 := (k123.grown0 hg125)
    refine wpo_loadn (vs := [.int .i64 r.th, .int .i64 r.ve, .bool r.rd, .bool r.wr, .bool r.wk]) rt_39 rfl rfl (k128.rangeL 0 5 rfl) rfl ?_
    refine wpo_run rfl rfl rfl h127 ?_
    refine wpo_call (vs := [.slice a ms.length c, .agg #[.int .i64 r.th, .int .i64 r.ve, .bool r.rd, .bool r.wr, .bool r.wk]]) gf_24 (args_cons rfl (args_cons rfl args_nil)) rfl (rightLive_c r (by omega) _ ms _ _ (TabAt.low ht hb126) hlen (by omega)) ?_
    rintro _ w129 ⟨rfl, hg130⟩
    have hb131 := low0 hb126 hg130
    refine wpo_pickt (v := .bool (live (tabT ms) r)) rfl h127 rfl rfl ?_
    refine wpo_assign (v := .bool (live (tabT ms) r)) rfl rfl ?_
    exact wpo_nil ⟨(congrArg Value.bool (by first | (simp only [h122, h127, b0, b1, b2, b3, b4, b5, b6, b7, b8, b9]; done) | simp [h122, h127])), (grown_trans (grown_trans hg120 hg125) hg130)⟩
   ·
    iterate 3 refine wpo_pass rfl rfl rfl h127 rfl ?_
    refine wpo_pickf (v := .bool false) rfl h127 rfl rfl ?_
    refine wpo_assign (v := .bool false) rfl rfl ?_
    exact wpo_nil ⟨(congrArg Value.bool (by first | (simp only [h122, h127, b0, b1, b2, b3, b4, b5, b6, b7, b8, b9]; done) | simp [h122, h127])), (grown_trans hg120 hg125)⟩
  ·
   refine wpo_pass rfl rfl rfl h122 rfl ?_
   refine wpo_pass rfl rfl rfl h122 rfl ?_
   refine wpo_pickf (v := .bool false) rfl h122 rfl rfl ?_
   refine wpo_move (v := .bool false) rfl rfl ?_
   iterate 3 refine wpo_pass rfl rfl rfl rfl rfl ?_
   refine wpo_pickf (v := .bool false) rfl rfl rfl rfl ?_
   refine wpo_assign (v := .bool false) rfl rfl ?_
   exact wpo_nil ⟨(congrArg Value.bool (by first | (simp only [h122, b0, b1, b2, b3, b4, b5, b6, b7, b8, b9]; done) | simp [h122])), hg120⟩
 ·
  rintro f132 w133 ⟨e134, hg135⟩
  have hb136 := low0 hb104 hg135
  refine wpf_ret ?_
  refine ⟨.bool ((tableOk (tabT ms) && rightOk r) && live (tabT ms) r), res1 rfl e134, ?_, hb136⟩
  rfl

theorem law_FnTableMore (bs : List Int) (a : Option Addr) (c : Nat) (w : World) (hs0 : SlAt w a 1 (bs.map bcell)) (hb : ∀ b ∈ bs, 0 ≤ b ∧ b ≤ 255) (hn : bs.length ≤ 9223372036854775807) (hc : bs.length ≤ c) (m : Nat) (a2 : Option Addr) (c2 : Nat) (hm2 : m ≤ 9223372036854775807) (htp : Pow10 w) : CallsR Tryd.prog 3 #[.slice a bs.length c, .slice a2 m c2] w (fun v w' => v = .bool true ∧ w.grownBy w' none) := by
 refine calls_of_wpf (n := 99) Tryd.func3 rfl Tryd.ntmps3 rfl ?_
 have hb0 := World.grownBy.refl w none
 have hs := SlAt.lt wide_b (by omega) hs0
 refine wpf_seq_region ?_
 refine wpo_assign (v := .bool false) rfl rfl ?_
 refine wpo_nil ?_
 refine wpf_seq ?_
 refine wpf_seq_region_mid (fun f' w' => (f' 0 = .slice a bs.length c ∧ f' 1 = .slice a2 m c2 ∧ f' 4 = .bool false ∧ f' 20 = .bool ((decide (1048576 < (bs.length : Int))) || (decide (1048576 < (m : Int))))) ∧ w = w') ?_ ?_
 ·
  refine wpo_move (v := .slice a bs.length c) rfl rfl ?_
  refine wpo_len (by kernel_rfl) rfl rfl ?_
  refine wpo_gtr (q := decide (1048576 < (bs.length : Int))) rfl rfl rfl rfl ?_
  refine wpo_move (v := .bool (decide (1048576 < (bs.length : Int)))) rfl rfl ?_
  rcases bcases (decide (1048576 < (bs.length : Int))) with h101 | h101
  ·
   have h102 := of_decide_eq_true h101
   iterate 3 refine wpo_pass rfl rfl rfl h101 rfl ?_
   refine wpo_pickt (v := .bool true) rfl h101 rfl rfl ?_
   exact wpo_nil ⟨⟨rfl, rfl, rfl, (congrArg Value.bool (by first | (simp only [h101, b0, b1, b2, b3, b4, b5, b6, b7, b8, b9]; done) | simp [h101]))⟩, rfl⟩
  ·
   have h103 := of_decide_eq_false h101
   refine wpo_run rfl rfl rfl h101 ?_
   refine wpo_move (v := .slice a2 m c2) rfl rfl ?_
   refine wpo_run rfl rfl rfl h101 ?_
   refine wpo_len (by kernel_rfl) rfl rfl ?_
   refine wpo_run rfl rfl rfl h101 ?_
   refine wpo_gtr (q := decide (1048576 < (m : Int))) rfl rfl rfl rfl ?_
   refine wpo_pickf (v := .bool (decide (1048576 < (m : Int)))) rfl h101 rfl rfl ?_
   exact wpo_nil ⟨⟨rfl, rfl, rfl, (congrArg Value.bool (by first | (simp only [h101, b0, b1, b2, b3, b4, b5, b6, b7, b8, b9]; done) | simp [h101]))⟩, rfl⟩
 ·
  rintro f104 w105 ⟨⟨e106, e107, e108, e109⟩, rfl⟩
  refine wpf_cond e109 (fun h110 => ?_) (fun h110 => ?_)
  ·
   refine wpf_seq_region ?_
   refine wpo_assign (v := .bool true) rfl rfl ?_
   refine wpo_nil ?_
   refine wpf_ret ?_
   refine thn_r ?_
   refine ⟨.bool true, res1 rfl rfl, ?_, hb0⟩
   rfl
  ·
   have h111 := or_l h110
   have h112 := of_decide_eq_false h111
   have h113 := or_r h110
   have h114 := of_decide_eq_false h113
   refine wpf_skip ?_
   refine thn_n ?_
   refine wpf_seq_region ?_
   refine wpo_move (v := .slice a bs.length c) e106 rfl ?_
   refine wpo_call (vs := [.slice a bs.length c]) gf_5 (args_cons rfl args_nil) rfl (DrawTableText_c bs a c _ (SlAt.low hs0 hb0) hb (by omega) (by omega)) ?_
   rintro _ w122 ⟨B115, cap116, ms117, rfl, hTG118, hTS119, hTn120, hg121⟩
   have hb123 := low0 hb0 hg121
   have hTl124 := hTS119.len
   refine wpo_assign (v := .slice (some ⟨B115, 0, none⟩) ms117.length cap116) rfl rfl ?_
   refine wpo_nil ?_
   refine wpf_seq_region ?_
   refine wpo_move (v := .slice (some ⟨B115, 0, none⟩) ms117.length cap116) rfl rfl ?_
   rcases bcases (tableOk (tabT ms117)) with h125 | h125
   ·
    refine wpo_call (vs := [.slice (some ⟨B115, 0, none⟩) ms117.length cap116]) gf_6 (args_cons rfl args_nil) rfl (itabtx_c _ ms117 (pow_low htp hb123) _ _ (TabG.at hTG118) hTl124 (by omega)) ?_
    rintro _ w126 ⟨rfl, hg127⟩
    have hb128 := low0 hb123 hg127
    refine wpo_assign (v := .string ⟨(tabtx (tabT ms117)).toArray⟩) rfl rfl ?_
    refine wpo_nil ?_
    refine wpf_seq ?_
    refine wpf_seq_region ?_
    refine wpo_move (v := .string ⟨(tabtx (tabT ms117)).toArray⟩) rfl rfl ?_
    refine wpo_move (v := .slice (some ⟨B115, 0, none⟩) ms117.length cap116) rfl rfl ?_
    have hTG133 := (TabG.low hTG118 hg127)
    refine wpo_call (vs := [.slice (some ⟨B115, 0, none⟩) ms117.length cap116]) gf_7 (args_cons rfl args_nil) rfl (stabtx_c _ ms117 _ _ (TabG.at hTG133) hTl124 (by omega)) ?_
    rintro _ w134 ⟨rfl, hg135⟩
    have hb136 := low0 hb128 hg135
    refine wpo_sneq (q := false) rfl rfl (by simp) rfl ?_
    refine wpo_move (v := .bool false) rfl rfl ?_
    refine wpo_run rfl rfl rfl rfl ?_
    refine wpo_move (v := .string ⟨(tabtx (tabT ms117)).toArray⟩) rfl rfl ?_
    refine wpo_run rfl rfl rfl rfl ?_
    refine wpo_seql (q := decide ((tabtx (tabT ms117)) = ([] : List UInt8))) rfl rfl rfl rfl ?_
    refine wpo_pickf (v := .bool (decide ((tabtx (tabT ms117)) = ([] : List UInt8)))) rfl rfl rfl rfl ?_
    refine wpo_move (v := .bool (decide ((tabtx (tabT ms117)) = ([] : List UInt8)))) rfl rfl ?_
    refine wpo_run rfl rfl rfl (decide_eq_false (tabtx_ne h125)) ?_
    refine wpo_move (v := .slice (some ⟨B115, 0, none⟩) ms117.length cap116) rfl rfl ?_
    refine wpo_run rfl rfl rfl (decide_eq_false (tabtx_ne h125)) ?_
    refine wpo_len (by kernel_rfl) rfl rfl ?_
    refine wpo_run rfl rfl rfl (decide_eq_false (tabtx_ne h125)) ?_
    refine wpo_eql (q := decide ((ms117.length : Int) = 8)) rfl rfl rfl rfl ?_
    refine wpo_pickf (v := .bool (decide ((ms117.length : Int) = 8))) rfl (decide_eq_false (tabtx_ne h125)) rfl rfl ?_
    refine wpo_nil ?_
    refine wpf_cond rfl (fun h137 => ?_) (fun h137 => ?_)
    ·
     have h138 := of_decide_eq_true h137
     refine wpf_seq_region ?_
     refine wpo_move (v := .string ⟨(tabtx (tabT ms117)).toArray⟩) rfl rfl ?_
     refine wpo_move (v := .slice (some ⟨B115, 0, none⟩) ms117.length cap116) rfl rfl ?_
     have hTG139 := (TabG.low hTG133 hg135)
     refine wpo_call (vs := [.slice (some ⟨B115, 0, none⟩) ms117.length cap116]) gf_7 (args_cons rfl args_nil) rfl (stabtx_c _ ms117 _ _ (TabG.at hTG139) hTl124 (by omega)) ?_
     rintro _ w140 ⟨rfl, hg141⟩
     have hb142 := low0 hb136 hg141
     refine wpo_seql (q := true) rfl rfl (by simp) rfl ?_
     refine wpo_assign (v := .bool true) rfl rfl ?_
     refine wpo_nil ?_
     refine wpf_ret ?_
     refine thn_r ?_
     refine ⟨.bool true, res1 rfl rfl, ?_, hb142⟩
     rfl
    ·
     have h143 := of_decide_eq_false h137
     refine wpf_skip ?_
     refine thn_n ?_
     refine wpf_seq ?_
     refine wpf_seq_region ?_
     refine wpo_assign (v := .int .i64 1) rfl rfl ?_
     refine wpo_nil ?_
     refine wpf_block ?_
     have hTG144 := (TabG.low hTG133 hg135)
     obtain ⟨hi, hhi⟩ : ∃ n, n = w134.heap.size := ⟨_, rfl⟩
     have hTG145 := hTG144
     have hTH := TabG.hi hTG144
     rw [← hhi] at hTH
     refine wpf_loopN (fun mm f' w' => ∃ (k : Int), mm = ((5 : Int) - k).toNat ∧ (1 ≤ k ∧ k ≤ 5) ∧ TabG w.heap.size w' (some ⟨B115, 0, none⟩) ms117 ∧ hi ≤ w'.heap.size ∧ f' 7 = .int .i64 k ∧ f' 1 = .slice a2 m c2 ∧ f' 5 = .slice (some ⟨B115, 0, none⟩) ms117.length cap116 ∧ w.grownBy w' none) (((5 : Int) - 1).toNat) ⟨1, rfl, (by omega), hTG145, (Nat.le_of_eq hhi), rfl, e107, rfl, hb136⟩ ?_
     rintro mm f146 w147 ⟨k, hm149, hk, hGl, hhs, e150, e151, e152, hb148⟩
     refine wpf_seq ?_
     refine wpf_seq_region ?_
     refine wpo_move (v := .int .i64 k) e150 rfl ?_
     refine wpo_leq (q := decide (k ≤ 4)) rfl rfl rfl rfl ?_
     refine wpo_nil ?_
     refine wpf_cond rfl (fun h153 => ?_) (fun h153 => ?_)
     ·
      have h154 := of_decide_eq_true h153
      refine wpf_skip ?_
      refine thn_n ?_
      refine wpf_seq ?_
      refine wpf_block ?_
      refine wpf_seq_region ?_
      refine wpo_move (v := .int .i64 k) e150 rfl ?_
      refine wpo_move (v := .slice a2 m c2) e151 rfl ?_
      refine wpo_len (by kernel_rfl) rfl rfl ?_
      refine wpo_call (vs := [.int .i64 (m : Int)]) gf_9 (args_cons rfl args_nil) rfl (ldLabel_c (m : Int) (by omega) _) ?_
      rintro _ w155 ⟨rfl, hg156⟩
      have hb157 := low0 hb148 hg156
      rcases bcases ((decide (k = 2)) || (decide (k = 3))) with h158 | h158
      ·
       have hno159 : newOk k ⟨(m : Int) % 4, (m : Int) / 4 % 4⟩ 0 = true := newOk_4 (by omega) lab4_ok
       have h160 : thingOk (⟨k, ⟨(m : Int) % 4, (m : Int) / 4 % 4⟩, 0, 0, zeros4, [], 0⟩ : Th) = true := (newOk_y h158).symm.trans hno159
       refine wpo_call (vs := [.int .i64 k, .agg #[.int .i64 ((m : Int) % 4), .int .i64 ((m : Int) / 4 % 4)], .int .i64 0]) gf_8 (args_cons rfl (args_cons rfl (args_cons rfl args_nil))) rfl (ThingNew_yt k 0 ⟨(m : Int) % 4, (m : Int) / 4 % 4⟩ h158 hno159 _) ?_
       rintro _ w161 ⟨B163, cap164, rfl, hge165, hO166, hg162⟩
       have hb167 := low0 hb157 hg162
       have hlB163 := Nat.le_trans hb157.size hge165
       refine wpo_move (v := .tuple #[.agg #[.int .i64 k, .int .i64 ((m : Int) % 4), .int .i64 ((m : Int) / 4 % 4), .int .i64 0, .int .i64 0, .slice (some ⟨B163, 0, none⟩) 4 cap164, .slice none 0 0, .int .i64 0], .bool true]) rfl rfl ?_
       refine wpo_extract (v := .agg #[.int .i64 k, .int .i64 ((m : Int) % 4), .int .i64 ((m : Int) / 4 % 4), .int .i64 0, .int .i64 0, .slice (some ⟨B163, 0, none⟩) 4 cap164, .slice none 0 0, .int .i64 0]) rfl rfl rfl ?_
       refine wpo_extract (v := .bool true) rfl rfl rfl ?_
       refine wpo_alloc (cs := #[.int .i64 0, .int .i64 0, .int .i64 0, .int .i64 0, .int .i64 0, .slice none 0 0, .slice none 0 0, .int .i64 0]) zt_31 rfl rfl ?_
       intro B168 w169 hN170
       have hlB168 := hN_ge hN170 hb167
       have hhiB168 : hi ≤ B168 := Nat.le_trans (Nat.le_trans (Nat.le_trans hhs hg156.size) hg162.size) (Nat.le_of_eq hN170.eq.symm)
       have lt_B163_B168 := hN_gtl hN170 (hO166).lt
       have hb171 := low0 hb167 hN170.grw
       refine wpo_storen (vs := [.int .i64 k, .int .i64 ((m : Int) % 4), .int .i64 ((m : Int) / 4 % 4), .int .i64 0, .int .i64 0, .slice (some ⟨B163, 0, none⟩) 4 cap164, .slice none 0 0, .int .i64 0]) (cs' := #[.int .i64 k, .int .i64 ((m : Int) % 4), .int .i64 ((m : Int) / 4 % 4), .int .i64 0, .int .i64 0, .slice (some ⟨B163, 0, none⟩) 4 cap164, .slice none 0 0, .int .i64 0]) rt_31 rfl rfl rfl (by simp [Value.oneCell']) hN170.blk (Nat.le_of_ble_eq_true rfl) rfl ?_
       intro w172 hS173
       have hb174 := low1 hb171 hS173.grw (by omega)
       refine wpo_assign (v := .bool true) rfl rfl ?_
       refine wpo_nil ?_
       refine wpf_seq ?_
       have hz309 : hi ≤ w172.heap.size := (Nat.le_trans (Nat.le_trans (Nat.le_trans (Nat.le_trans hhs hg156.size) hg162.size) hN170.grw.size) hS173.grw.size)
       refine wpf_drawI (m := 8) [[], [0], [0, 1], [0, 1, 2], [0, 1, 2], [0, 1, 2, 3, 4], [0, 1, 2], [0, 1, 2, 6], [0, 1, 2, 3, 4, 5, 6, 7], [0, 1, 2, 3, 4, 5, 6, 7, 8], [0, 1, 2, 3, 4, 5, 6, 7, 8, 9], [0, 1, 2, 3, 4, 5, 6, 7, 8, 9, 10]] (fun S F w' => ∃ (B289 : Nat) (B295 : Nat) (cap296 : Nat) (B303 : Nat), w172.grownBy w' none ∧ F 1 = .slice a2 m c2 ∧ F 5 = .slice (some ⟨B115, 0, none⟩) ms117.length cap116 ∧ F 7 = .int .i64 k ∧ F 8 = .pointer (some ⟨B168, 0, none⟩) ∧ F 9 = .bool true ∧ (S 3 = true → F 57 = .slice (some ⟨B289, 0, none⟩) 0 0 ∧ w.heap.size ≤ B289 ∧ Blk w' B289 31 (([] : List MTh).flatMap MTh.cells).toArray ∧ B163 < B289 ∧ B168 < B289 ∧ w172.heap.size ≤ B289) ∧ (S 5 = true → F 59 = .slice (some ⟨B295, 0, none⟩) ms117.length cap296 ∧ w.heap.size ≤ B295 ∧ Dw.Own w' B295 31 8 cap296 ms117.length (ms117.flatMap MTh.cells) ∧ B163 < B295 ∧ B168 < B295 ∧ B289 < B295 ∧ w172.heap.size ≤ B295) ∧ (S 7 = true → F 61 = .slice (some ⟨B303, 0, none⟩) 1 1 ∧ w.heap.size ≤ B303 ∧ Blk w' B303 31 (([mkNew k ⟨(m : Int) % 4, (m : Int) / 4 % 4⟩ zeros4 0 (some ⟨B163, 0, none⟩) cap164] : List MTh).flatMap MTh.cells).toArray ∧ B163 < B303 ∧ B168 < B303 ∧ w172.heap.size ≤ B303) ∧ Vals S F [(0, 54, .bool true), (1, 55, .bool false), (2, 56, .bool false), (4, 58, .slice (some ⟨B115, 0, none⟩) ms117.length cap116), (6, 60, .agg #[.int .i64 k, .int .i64 ((m : Int) % 4), .int .i64 ((m : Int) / 4 % 4), .int .i64 0, .int .i64 0, .slice (some ⟨B163, 0, none⟩) 4 cap164, .slice none 0 0, .int .i64 0])]) mixed_ (by kernel_rfl) ⟨0, 0, 0, 0, grown_drew _, e151, e152, e150, rfl, rfl, not_begun, not_begun, not_begun, vals_0 _⟩ ?_ ?_
       ·
        refine preL_cons (fun S F w310 hS hbef hcl hI => ?_) ?_
        ·
         obtain ⟨B289, B295, cap296, B303, hi311, e312, e313, e314, e315, e316, c_3, c_5, c_7, hvs⟩ := hI
         have hb317 := low0 hb174 hi311
         refine wpo_move (v := .bool true) e316 rfl ?_
         exact wpo_nil ⟨B289, B295, cap296, B303, hi311, e312, e313, e314, e315, e316, fun h => undone 3 hS hcl rfl h, fun h => undone 5 hS hcl rfl h, fun h => undone 7 hS hcl rfl h, Vals.up 0 hvs rfl rfl rfl⟩
        refine preL_cons (fun S F w318 hS hbef hcl hI => ?_) ?_
        ·
         obtain ⟨B289, B295, cap296, B303, hi319, e320, e321, e322, e323, e324, c_3, c_5, c_7, hvs⟩ := hI
         have hb325 := low0 hb174 hi319
         have ev326 := Vals.at 0 hvs rfl (ready_of 0 hbef rfl)
         refine wpo_not (b' := false) ev326 rfl rfl ?_
         exact wpo_nil ⟨B289, B295, cap296, B303, hi319, e320, e321, e322, e323, e324, fun h => undone 3 hS hcl rfl h, fun h => undone 5 hS hcl rfl h, fun h => undone 7 hS hcl rfl h, Vals.up 1 hvs rfl rfl rfl⟩
        refine preL_cons (fun S F w327 hS hbef hcl hI => ?_) ?_
        ·
         obtain ⟨B289, B295, cap296, B303, hi328, e329, e330, e331, e332, e333, c_3, c_5, c_7, hvs⟩ := hI
         have hb334 := low0 hb174 hi328
         have ev335 := Vals.at 0 hvs rfl (ready_of 0 hbef rfl)
         have ev336 := Vals.at 1 hvs rfl (ready_of 1 hbef rfl)
         refine wpo_move (v := .bool false) ev336 rfl ?_
         exact wpo_nil ⟨B289, B295, cap296, B303, hi328, e329, e330, e331, e332, e333, fun h => undone 3 hS hcl rfl h, fun h => undone 5 hS hcl rfl h, fun h => undone 7 hS hcl rfl h, Vals.up 2 hvs rfl rfl rfl⟩
        refine preL_cons (fun S F w337 hS hbef hcl hI => ?_) ?_
        ·
         obtain ⟨B289, B295, cap296, B303, hi338, e339, e340, e341, e342, e343, c_3, c_5, c_7, hvs⟩ := hI
         have hb344 := low0 hb174 hi338
         have ev345 := Vals.at 0 hvs rfl (ready_of 0 hbef rfl)
         have ev346 := Vals.at 1 hvs rfl (ready_of 1 hbef rfl)
         have ev347 := Vals.at 2 hvs rfl (ready_of 2 hbef rfl)
         refine wpo_run rfl rfl ev347 rfl ?_
         refine wpo_buildSlice (ps := []) (e := 31) (cs := (([] : List MTh).flatMap MTh.cells).toArray) parts_nil (fun _ => by kernel_rfl) rfl ?_
         intro B348 w349 hN350
         have hlB348 := hN_ge hN350 hb344
         have hhiB348 : hi ≤ B348 := Nat.le_trans (Nat.le_trans (Nat.le_trans (Nat.le_trans (Nat.le_trans (Nat.le_trans hhs hg156.size) hg162.size) hN170.grw.size) hS173.grw.size) hi338.size) (Nat.le_of_eq hN350.eq.symm)
         have k351 := (((hO166.grown0 hN170.grw).gn hS173.grw).grown0 hi338)
         have lt_B163_B348 := hN_gtl hN350 (k351).lt
         have k352 := (hS173.blk.grown0 hi338)
         have lt_B168_B348 := hN_gtl hN350 (k352).lt
         have hb353 := low0 hb344 hN350.grw
         exact wpo_nil ⟨B348, B295, cap296, B303, (low0 hi338 hN350.grw), e339, e340, e341, e342, e343, fun _ => ⟨rfl, hlB348, hN350.blk, lt_B163_B348, lt_B168_B348, (Nat.le_trans hi338.size (Nat.le_of_eq hN350.eq.symm))⟩, fun h => undone 5 hS hcl rfl h, fun h => let ⟨y354, y355, y356, y357, y358, y359⟩ := c_7 h; ⟨y354, y355, (y356).grown0 hN350.grw, y357, y358, y359⟩, Vals.keep hvs rfl⟩
        refine preL_cons (fun S F w360 hS hbef hcl hI => ?_) ?_
        ·
         obtain ⟨B289, B295, cap296, B303, hi361, e362, e363, e364, e365, e366, c_3, c_5, c_7, hvs⟩ := hI
         have hb367 := low0 hb174 hi361
         have ev368 := Vals.at 0 hvs rfl (ready_of 0 hbef rfl)
         have ev369 := Vals.at 1 hvs rfl (ready_of 1 hbef rfl)
         have ev370 := Vals.at 2 hvs rfl (ready_of 2 hbef rfl)
         refine wpo_run rfl rfl ev370 rfl ?_
         refine wpo_move (v := .slice (some ⟨B115, 0, none⟩) ms117.length cap116) e363 rfl ?_
         exact wpo_nil ⟨B289, B295, cap296, B303, hi361, e362, e363, e364, e365, e366, c_3, fun h => undone 5 hS hcl rfl h, c_7, Vals.up 3 hvs rfl rfl rfl⟩
        refine preL_cons (fun S F w371 hS hbef hcl hI => ?_) ?_
        ·
         obtain ⟨B289, B295, cap296, B303, hi372, e373, e374, e375, e376, e377, c_3, c_5, c_7, hvs⟩ := hI
         have hb378 := low0 hb174 hi372
         have ev379 := Vals.at 0 hvs rfl (ready_of 0 hbef rfl)
         have ev380 := Vals.at 1 hvs rfl (ready_of 1 hbef rfl)
         have ev381 := Vals.at 2 hvs rfl (ready_of 2 hbef rfl)
         obtain ⟨e382, hlB289, kb_B289, lt_B163_B289, lt_B168_B289, hk_B289⟩ := c_3 (ready_of 3 hbef rfl)
         have ev383 := Vals.at 3 hvs rfl (ready_of 4 hbef rfl)
         refine wpo_run rfl rfl ev381 rfl ?_
         have hTG384 := (TabG.low (TabG.ge (TabG.low (TabG.low (TabG.low hGl hg156) hg162) hN170.grw) hS173.grw hTH (by omega)) hi372)
         refine wpo_append0 (g := MTh.cells) (zs := ms117) mk_23 rfl wide_mth (by omega) e382 ev383 (TabG.at hTG384).1 (by omega) (by omega) (by omega) rfl ?_
         intro B385 cap386 w387 hN388
         have hlB385 := nO_ge hN388 hb378
         have hhiB385 : hi ≤ B385 := Nat.le_trans (Nat.le_trans (Nat.le_trans (Nat.le_trans (Nat.le_trans (Nat.le_trans hhs hg156.size) hg162.size) hN170.grw.size) hS173.grw.size) hi372.size) (Nat.le_of_eq hN388.eq.symm)
         have k389 := (((hO166.grown0 hN170.grw).gn hS173.grw).grown0 hi372)
         have lt_B163_B385 := nO_gtl hN388 (k389).lt
         have k390 := (hS173.blk.grown0 hi372)
         have lt_B168_B385 := nO_gtl hN388 (k390).lt
         have lt_B289_B385 := nO_gtl hN388 (kb_B289).lt
         have hb391 := low0 hb378 hN388.grw
         exact wpo_nil ⟨B289, B385, cap386, B303, (low0 hi372 hN388.grw), e373, e374, e375, e376, e377, fun h => let ⟨y392, y393, y394, y395, y396, y397⟩ := c_3 h; ⟨y392, y393, (y394).grown0 hN388.grw, y395, y396, y397⟩, fun _ => ⟨rfl, hlB385, hN388.own, lt_B163_B385, lt_B168_B385, lt_B289_B385, (Nat.le_trans hi372.size (Nat.le_of_eq hN388.eq.symm))⟩, fun h => let ⟨y398, y399, y400, y401, y402, y403⟩ := c_7 h; ⟨y398, y399, (y400).grown0 hN388.grw, y401, y402, y403⟩, Vals.keep hvs rfl⟩
        refine preL_cons (fun S F w404 hS hbef hcl hI => ?_) ?_
        ·
         obtain ⟨B289, B295, cap296, B303, hi405, e406, e407, e408, e409, e410, c_3, c_5, c_7, hvs⟩ := hI
         have hb411 := low0 hb174 hi405
         have ev412 := Vals.at 0 hvs rfl (ready_of 0 hbef rfl)
         have ev413 := Vals.at 1 hvs rfl (ready_of 1 hbef rfl)
         have ev414 := Vals.at 2 hvs rfl (ready_of 2 hbef rfl)
         refine wpo_run rfl rfl ev414 rfl ?_
         have k415 := (hS173.blk.grown0 hi405)
         refine wpo_loadn (vs := [.int .i64 k, .int .i64 ((m : Int) % 4), .int .i64 ((m : Int) / 4 % 4), .int .i64 0, .int .i64 0, .slice (some ⟨B163, 0, none⟩) 4 cap164, .slice none 0 0, .int .i64 0]) rt_31 e409 rfl (k415.rangeL 0 8 rfl) rfl ?_
         exact wpo_nil ⟨B289, B295, cap296, B303, hi405, e406, e407, e408, e409, e410, c_3, c_5, fun h => undone 7 hS hcl rfl h, Vals.up 4 hvs rfl rfl rfl⟩
        refine preL_cons (fun S F w416 hS hbef hcl hI => ?_) ?_
        ·
         obtain ⟨B289, B295, cap296, B303, hi417, e418, e419, e420, e421, e422, c_3, c_5, c_7, hvs⟩ := hI
         have hb423 := low0 hb174 hi417
         have ev424 := Vals.at 0 hvs rfl (ready_of 0 hbef rfl)
         have ev425 := Vals.at 1 hvs rfl (ready_of 1 hbef rfl)
         have ev426 := Vals.at 2 hvs rfl (ready_of 2 hbef rfl)
         have ev427 := Vals.at 4 hvs rfl (ready_of 6 hbef rfl)
         refine wpo_run rfl rfl ev426 rfl ?_
         refine wpo_buildSlice (ps := [(0, .agg #[.int .i64 k, .int .i64 ((m : Int) % 4), .int .i64 ((m : Int) / 4 % 4), .int .i64 0, .int .i64 0, .slice (some ⟨B163, 0, none⟩) 4 cap164, .slice none 0 0, .int .i64 0])]) (e := 31) (cs := (([mkNew k ⟨(m : Int) % 4, (m : Int) / 4 % 4⟩ zeros4 0 (some ⟨B163, 0, none⟩) cap164] : List MTh).flatMap MTh.cells).toArray) (parts_cons ev427 parts_nil) (fun _ => by kernel_rfl) rfl ?_
         intro B428 w429 hN430
         have hlB428 := hN_ge hN430 hb423
         have hhiB428 : hi ≤ B428 := Nat.le_trans (Nat.le_trans (Nat.le_trans (Nat.le_trans (Nat.le_trans (Nat.le_trans hhs hg156.size) hg162.size) hN170.grw.size) hS173.grw.size) hi417.size) (Nat.le_of_eq hN430.eq.symm)
         have k431 := (((hO166.grown0 hN170.grw).gn hS173.grw).grown0 hi417)
         have lt_B163_B428 := hN_gtl hN430 (k431).lt
         have k432 := (hS173.blk.grown0 hi417)
         have lt_B168_B428 := hN_gtl hN430 (k432).lt
         have hb433 := low0 hb423 hN430.grw
         exact wpo_nil ⟨B289, B295, cap296, B428, (low0 hi417 hN430.grw), e418, e419, e420, e421, e422, fun h => let ⟨y434, y435, y436, y437, y438, y439⟩ := c_3 h; ⟨y434, y435, (y436).grown0 hN430.grw, y437, y438, y439⟩, fun h => let ⟨y440, y441, y442, y443, y444, y445, y446⟩ := c_5 h; ⟨y440, y441, (y442).grown0 hN430.grw, y443, y444, y445, y446⟩, fun _ => ⟨rfl, hlB428, hN430.blk, lt_B163_B428, lt_B168_B428, (Nat.le_trans hi417.size (Nat.le_of_eq hN430.eq.symm))⟩, Vals.keep hvs rfl⟩
        exact preL_nil
       ·
        intro S F w447 hall hI
        obtain ⟨B289, B295, cap296, B303, hi448, e449, e450, e451, e452, e453, c_3, c_5, c_7, hvs⟩ := hI
        have hb454 := low0 hb174 hi448
        have ev455 := Vals.at 0 hvs rfl (hall 0 (by decide))
        have ev456 := Vals.at 1 hvs rfl (hall 1 (by decide))
        have ev457 := Vals.at 2 hvs rfl (hall 2 (by decide))
        obtain ⟨e458, hlB289, kb_B289, lt_B163_B289, lt_B168_B289, hk_B289⟩ := c_3 (hall 3 (by decide))
        have ev459 := Vals.at 3 hvs rfl (hall 4 (by decide))
        obtain ⟨e460, hlB295, kb_B295, lt_B163_B295, lt_B168_B295, lt_B289_B295, hk_B295⟩ := c_5 (hall 5 (by decide))
        have ev461 := Vals.at 4 hvs rfl (hall 6 (by decide))
        obtain ⟨e462, hlB303, kb_B303, lt_B163_B303, lt_B168_B303, hk_B303⟩ := c_7 (hall 7 (by decide))
        refine wpo_run rfl rfl ev457 rfl ?_
        have k463 := (((hO166.grown0 hN170.grw).gn hS173.grw).grown0 hi448)
        have k464 := (hS173.blk.grown0 hi448)
        refine wpo_append (g := MTh.cells) (ys := ms117) (zs := [mkNew k ⟨(m : Int) % 4, (m : Int) / 4 % 4⟩ zeros4 0 (some ⟨B163, 0, none⟩) cap164]) mk_23 rfl wide_mth (by omega) onec_mth e460 e462 kb_B295 (rows_sl wide_mth kb_B303) (by simp only [List.length_cons, List.length_nil]; omega) (by omega) rfl ?_
        intro B465 cap466 w467 hO468 hg469 hor470
        have hlB465 : w.heap.size ≤ B465 := by rcases hor470 with h | h; (rw [h]; omega); (rw [h]; exact hb454.size)
        have hhiB465 : hi ≤ B465 := by rcases hor470 with h | h; (rw [h]; omega); (rw [h]; exact (Nat.le_trans (Nat.le_trans (Nat.le_trans (Nat.le_trans (Nat.le_trans hhs hg156.size) hg162.size) hN170.grw.size) hS173.grw.size) hi448.size))
        have hb471 := low1 hb454 hg469 (by omega)
        have hxl472 := snoc_len (ms := ms117) (X := mkNew k ⟨(m : Int) % 4, (m : Int) / 4 % 4⟩ zeros4 0 (some ⟨B163, 0, none⟩) cap164)
        have htx473 : tableOk (tabT (ms117 ++ [mkNew k ⟨(m : Int) % 4, (m : Int) / 4 % 4⟩ zeros4 0 (some ⟨B163, 0, none⟩) cap164])) = true := newX_ok h125 (by omega) (mkNew_y h158) (by omega) lab4_ok
        refine wpo_run rfl rfl ev457 rfl ?_
        have hTG474 := (TabG.ge (TabG.low (TabG.ge (TabG.low (TabG.low (TabG.low hGl hg156) hg162) hN170.grw) hS173.grw hTH (by omega)) hi448) hg469 hTH (by omega))
        have k475 := (k463.gn hg469)
        refine wpo_call (vs := [.slice (some ⟨B465, 0, none⟩) ((ms117 ++ [mkNew k ⟨(m : Int) % 4, (m : Int) / 4 % 4⟩ zeros4 0 (some ⟨B163, 0, none⟩) cap164]).length) cap466]) gf_10 (args_cons rfl args_nil) rfl (TableOk_c  _ (ms117 ++ [mkNew k ⟨(m : Int) % 4, (m : Int) / 4 % 4⟩ zeros4 0 (some ⟨B163, 0, none⟩) cap164]) _ _ (tabAt_snoc hO468 (TabG.at hTG474) (thNew_y k475)) (tabLen_snoc hTl124 mkNew_len_y) (by simp only [List.length_append, List.length_cons, List.length_nil]; omega)) ?_
        rintro _ w476 ⟨rfl, hg477⟩
        have hb478 := low0 hb471 hg477
        refine wpo_run rfl rfl ev457 rfl ?_
        refine wpo_not (b' := !tableOk (tabT (ms117 ++ [mkNew k ⟨(m : Int) % 4, (m : Int) / 4 % 4⟩ zeros4 0 (some ⟨B163, 0, none⟩) cap164]))) rfl rfl rfl ?_
        refine wpo_pickf (v := .bool (!tableOk (tabT (ms117 ++ [mkNew k ⟨(m : Int) % 4, (m : Int) / 4 % 4⟩ zeros4 0 (some ⟨B163, 0, none⟩) cap164])))) ev457 rfl rfl rfl ?_
        refine wpo_nil ?_
        refine thn_n ?_
        refine wpf_condf rfl (not_of_t htx473) ?_
        refine wpf_skip ?_
        refine blk_n ?_
        refine thn_n ?_
        refine wpf_region ?_
        refine wpo_move (v := .int .i64 k) e451 rfl ?_
        refine wpo_add (c := k + 1) rfl rfl (by omega) (by omega) (by omega) rfl ?_
        refine wpo_assign (v := .int .i64 (k + 1)) rfl rfl ?_
        refine wpo_nil ?_
        refine thn_n ?_
        have hTG479 := (TabG.low hTG474 hg477)
        exact ⟨((5 : Int) - (k + 1)).toNat, by omega, (k + 1), rfl, (by omega), hTG479, (Nat.le_trans (Nat.le_trans (Nat.le_trans (Nat.le_trans (Nat.le_trans (Nat.le_trans (Nat.le_trans hhs hg156.size) hg162.size) hN170.grw.size) hS173.grw.size) hi448.size) hg469.size) hg477.size), rfl, e449, e450, hb478⟩
      ·
       have h480 := or_l h158
       have h481 := of_decide_eq_false h480
       have h482 := or_r h158
       have h483 := of_decide_eq_false h482
       have hno484 : newOk k ⟨(m : Int) % 4, (m : Int) / 4 % 4⟩ 0 = true := newOk_4 (by omega) lab4_ok
       have h485 : thingOk (⟨k, ⟨(m : Int) % 4, (m : Int) / 4 % 4⟩, 0, 0, [], [], 0⟩ : Th) = true := (newOk_n h158).symm.trans hno484
       refine wpo_call (vs := [.int .i64 k, .agg #[.int .i64 ((m : Int) % 4), .int .i64 ((m : Int) / 4 % 4)], .int .i64 0]) gf_8 (args_cons rfl (args_cons rfl (args_cons rfl args_nil))) rfl (ThingNew_nt k 0 ⟨(m : Int) % 4, (m : Int) / 4 % 4⟩ h158 hno484 _) ?_
       rintro _ w486 ⟨rfl, hg487⟩
       have hb488 := low0 hb157 hg487
       refine wpo_move (v := .tuple #[.agg #[.int .i64 k, .int .i64 ((m : Int) % 4), .int .i64 ((m : Int) / 4 % 4), .int .i64 0, .int .i64 0, .slice none 0 0, .slice none 0 0, .int .i64 0], .bool true]) rfl rfl ?_
       refine wpo_extract (v := .agg #[.int .i64 k, .int .i64 ((m : Int) % 4), .int .i64 ((m : Int) / 4 % 4), .int .i64 0, .int .i64 0, .slice none 0 0, .slice none 0 0, .int .i64 0]) rfl rfl rfl ?_
       refine wpo_extract (v := .bool true) rfl rfl rfl ?_
       refine wpo_alloc (cs := #[.int .i64 0, .int .i64 0, .int .i64 0, .int .i64 0, .int .i64 0, .slice none 0 0, .slice none 0 0, .int .i64 0]) zt_31 rfl rfl ?_
       intro B489 w490 hN491
       have hlB489 := hN_ge hN491 hb488
       have hhiB489 : hi ≤ B489 := Nat.le_trans (Nat.le_trans (Nat.le_trans hhs hg156.size) hg487.size) (Nat.le_of_eq hN491.eq.symm)
       have hb492 := low0 hb488 hN491.grw
       refine wpo_storen (vs := [.int .i64 k, .int .i64 ((m : Int) % 4), .int .i64 ((m : Int) / 4 % 4), .int .i64 0, .int .i64 0, .slice none 0 0, .slice none 0 0, .int .i64 0]) (cs' := #[.int .i64 k, .int .i64 ((m : Int) % 4), .int .i64 ((m : Int) / 4 % 4), .int .i64 0, .int .i64 0, .slice none 0 0, .slice none 0 0, .int .i64 0]) rt_31 rfl rfl rfl (by simp [Value.oneCell']) hN491.blk (Nat.le_of_ble_eq_true rfl) rfl ?_
       intro w493 hS494
       have hb495 := low1 hb492 hS494.grw (by omega)
       refine wpo_assign (v := .bool true) rfl rfl ?_
       refine wpo_nil ?_
       refine wpf_seq ?_
       have hz612 : hi ≤ w493.heap.size := (Nat.le_trans (Nat.le_trans (Nat.le_trans (Nat.le_trans hhs hg156.size) hg487.size) hN491.grw.size) hS494.grw.size)
       refine wpf_drawI (m := 8) [[], [0], [0, 1], [0, 1, 2], [0, 1, 2], [0, 1, 2, 3, 4], [0, 1, 2], [0, 1, 2, 6], [0, 1, 2, 3, 4, 5, 6, 7], [0, 1, 2, 3, 4, 5, 6, 7, 8], [0, 1, 2, 3, 4, 5, 6, 7, 8, 9], [0, 1, 2, 3, 4, 5, 6, 7, 8, 9, 10]] (fun S F w' => ∃ (B595 : Nat) (B600 : Nat) (cap601 : Nat) (B607 : Nat), w493.grownBy w' none ∧ F 1 = .slice a2 m c2 ∧ F 5 = .slice (some ⟨B115, 0, none⟩) ms117.length cap116 ∧ F 7 = .int .i64 k ∧ F 8 = .pointer (some ⟨B489, 0, none⟩) ∧ F 9 = .bool true ∧ (S 3 = true → F 57 = .slice (some ⟨B595, 0, none⟩) 0 0 ∧ w.heap.size ≤ B595 ∧ Blk w' B595 31 (([] : List MTh).flatMap MTh.cells).toArray ∧ B489 < B595 ∧ w493.heap.size ≤ B595) ∧ (S 5 = true → F 59 = .slice (some ⟨B600, 0, none⟩) ms117.length cap601 ∧ w.heap.size ≤ B600 ∧ Dw.Own w' B600 31 8 cap601 ms117.length (ms117.flatMap MTh.cells) ∧ B489 < B600 ∧ B595 < B600 ∧ w493.heap.size ≤ B600) ∧ (S 7 = true → F 61 = .slice (some ⟨B607, 0, none⟩) 1 1 ∧ w.heap.size ≤ B607 ∧ Blk w' B607 31 (([mkNew k ⟨(m : Int) % 4, (m : Int) / 4 % 4⟩ [] 0 none 0] : List MTh).flatMap MTh.cells).toArray ∧ B489 < B607 ∧ w493.heap.size ≤ B607) ∧ Vals S F [(0, 54, .bool true), (1, 55, .bool false), (2, 56, .bool false), (4, 58, .slice (some ⟨B115, 0, none⟩) ms117.length cap116), (6, 60, .agg #[.int .i64 k, .int .i64 ((m : Int) % 4), .int .i64 ((m : Int) / 4 % 4), .int .i64 0, .int .i64 0, .slice none 0 0, .slice none 0 0, .int .i64 0])]) mixed_ (by kernel_rfl) ⟨0, 0, 0, 0, grown_drew _, e151, e152, e150, rfl, rfl, not_begun, not_begun, not_begun, vals_0 _⟩ ?_ ?_
       ·
        refine preL_cons (fun S F w613 hS hbef hcl hI => ?_) ?_
        ·
         obtain ⟨B595, B600, cap601, B607, hi614, e615, e616, e617, e618, e619, c_3, c_5, c_7, hvs⟩ := hI
         have hb620 := low0 hb495 hi614
         refine wpo_move (v := .bool true) e619 rfl ?_
         exact wpo_nil ⟨B595, B600, cap601, B607, hi614, e615, e616, e617, e618, e619, fun h => undone 3 hS hcl rfl h, fun h => undone 5 hS hcl rfl h, fun h => undone 7 hS hcl rfl h, Vals.up 0 hvs rfl rfl rfl⟩
        refine preL_cons (fun S F w621 hS hbef hcl hI => ?_) ?_
        ·
         obtain ⟨B595, B600, cap601, B607, hi622, e623, e624, e625, e626, e627, c_3, c_5, c_7, hvs⟩ := hI
         have hb628 := low0 hb495 hi622
         have ev629 := Vals.at 0 hvs rfl (ready_of 0 hbef rfl)
         refine wpo_not (b' := false) ev629 rfl rfl ?_
         exact wpo_nil ⟨B595, B600, cap601, B607, hi622, e623, e624, e625, e626, e627, fun h => undone 3 hS hcl rfl h, fun h => undone 5 hS hcl rfl h, fun h => undone 7 hS hcl rfl h, Vals.up 1 hvs rfl rfl rfl⟩
        refine preL_cons (fun S F w630 hS hbef hcl hI => ?_) ?_
        ·
         obtain ⟨B595, B600, cap601, B607, hi631, e632, e633, e634, e635, e636, c_3, c_5, c_7, hvs⟩ := hI
         have hb637 := low0 hb495 hi631
         have ev638 := Vals.at 0 hvs rfl (ready_of 0 hbef rfl)
         have ev639 := Vals.at 1 hvs rfl (ready_of 1 hbef rfl)
         refine wpo_move (v := .bool false) ev639 rfl ?_
         exact wpo_nil ⟨B595, B600, cap601, B607, hi631, e632, e633, e634, e635, e636, fun h => undone 3 hS hcl rfl h, fun h => undone 5 hS hcl rfl h, fun h => undone 7 hS hcl rfl h, Vals.up 2 hvs rfl rfl rfl⟩
        refine preL_cons (fun S F w640 hS hbef hcl hI => ?_) ?_
        ·
         obtain ⟨B595, B600, cap601, B607, hi641, e642, e643, e644, e645, e646, c_3, c_5, c_7, hvs⟩ := hI
         have hb647 := low0 hb495 hi641
         have ev648 := Vals.at 0 hvs rfl (ready_of 0 hbef rfl)
         have ev649 := Vals.at 1 hvs rfl (ready_of 1 hbef rfl)
         have ev650 := Vals.at 2 hvs rfl (ready_of 2 hbef rfl)
         refine wpo_run rfl rfl ev650 rfl ?_
         refine wpo_buildSlice (ps := []) (e := 31) (cs := (([] : List MTh).flatMap MTh.cells).toArray) parts_nil (fun _ => by kernel_rfl) rfl ?_
         intro B651 w652 hN653
         have hlB651 := hN_ge hN653 hb647
         have hhiB651 : hi ≤ B651 := Nat.le_trans (Nat.le_trans (Nat.le_trans (Nat.le_trans (Nat.le_trans (Nat.le_trans hhs hg156.size) hg487.size) hN491.grw.size) hS494.grw.size) hi641.size) (Nat.le_of_eq hN653.eq.symm)
         have k654 := (hS494.blk.grown0 hi641)
         have lt_B489_B651 := hN_gtl hN653 (k654).lt
         have hb655 := low0 hb647 hN653.grw
         exact wpo_nil ⟨B651, B600, cap601, B607, (low0 hi641 hN653.grw), e642, e643, e644, e645, e646, fun _ => ⟨rfl, hlB651, hN653.blk, lt_B489_B651, (Nat.le_trans hi641.size (Nat.le_of_eq hN653.eq.symm))⟩, fun h => undone 5 hS hcl rfl h, fun h => let ⟨y656, y657, y658, y659, y660⟩ := c_7 h; ⟨y656, y657, (y658).grown0 hN653.grw, y659, y660⟩, Vals.keep hvs rfl⟩
        refine preL_cons (fun S F w661 hS hbef hcl hI => ?_) ?_
        ·
         obtain ⟨B595, B600, cap601, B607, hi662, e663, e664, e665, e666, e667, c_3, c_5, c_7, hvs⟩ := hI
         have hb668 := low0 hb495 hi662
         have ev669 := Vals.at 0 hvs rfl (ready_of 0 hbef rfl)
         have ev670 := Vals.at 1 hvs rfl (ready_of 1 hbef rfl)
         have ev671 := Vals.at 2 hvs rfl (ready_of 2 hbef rfl)
         refine wpo_run rfl rfl ev671 rfl ?_
         refine wpo_move (v := .slice (some ⟨B115, 0, none⟩) ms117.length cap116) e664 rfl ?_
         exact wpo_nil ⟨B595, B600, cap601, B607, hi662, e663, e664, e665, e666, e667, c_3, fun h => undone 5 hS hcl rfl h, c_7, Vals.up 3 hvs rfl rfl rfl⟩
        refine preL_cons (fun S F w672 hS hbef hcl hI => ?_) ?_
        ·
         obtain ⟨B595, B600, cap601, B607, hi673, e674, e675, e676, e677, e678, c_3, c_5, c_7, hvs⟩ := hI
         have hb679 := low0 hb495 hi673
         have ev680 := Vals.at 0 hvs rfl (ready_of 0 hbef rfl)
         have ev681 := Vals.at 1 hvs rfl (ready_of 1 hbef rfl)
         have ev682 := Vals.at 2 hvs rfl (ready_of 2 hbef rfl)
         obtain ⟨e683, hlB595, kb_B595, lt_B489_B595, hk_B595⟩ := c_3 (ready_of 3 hbef rfl)
         have ev684 := Vals.at 3 hvs rfl (ready_of 4 hbef rfl)
         refine wpo_run rfl rfl ev682 rfl ?_
         have hTG685 := (TabG.low (TabG.ge (TabG.low (TabG.low (TabG.low hGl hg156) hg487) hN491.grw) hS494.grw hTH (by omega)) hi673)
         refine wpo_append0 (g := MTh.cells) (zs := ms117) mk_23 rfl wide_mth (by omega) e683 ev684 (TabG.at hTG685).1 (by omega) (by omega) (by omega) rfl ?_
         intro B686 cap687 w688 hN689
         have hlB686 := nO_ge hN689 hb679
         have hhiB686 : hi ≤ B686 := Nat.le_trans (Nat.le_trans (Nat.le_trans (Nat.le_trans (Nat.le_trans (Nat.le_trans hhs hg156.size) hg487.size) hN491.grw.size) hS494.grw.size) hi673.size) (Nat.le_of_eq hN689.eq.symm)
         have k690 := (hS494.blk.grown0 hi673)
         have lt_B489_B686 := nO_gtl hN689 (k690).lt
         have lt_B595_B686 := nO_gtl hN689 (kb_B595).lt
         have hb691 := low0 hb679 hN689.grw
         exact wpo_nil ⟨B595, B686, cap687, B607, (low0 hi673 hN689.grw), e674, e675, e676, e677, e678, fun h => let ⟨y692, y693, y694, y695, y696⟩ := c_3 h; ⟨y692, y693, (y694).grown0 hN689.grw, y695, y696⟩, fun _ => ⟨rfl, hlB686, hN689.own, lt_B489_B686, lt_B595_B686, (Nat.le_trans hi673.size (Nat.le_of_eq hN689.eq.symm))⟩, fun h => let ⟨y697, y698, y699, y700, y701⟩ := c_7 h; ⟨y697, y698, (y699).grown0 hN689.grw, y700, y701⟩, Vals.keep hvs rfl⟩
        refine preL_cons (fun S F w702 hS hbef hcl hI => ?_) ?_
        ·
         obtain ⟨B595, B600, cap601, B607, hi703, e704, e705, e706, e707, e708, c_3, c_5, c_7, hvs⟩ := hI
         have hb709 := low0 hb495 hi703
         have ev710 := Vals.at 0 hvs rfl (ready_of 0 hbef rfl)
         have ev711 := Vals.at 1 hvs rfl (ready_of 1 hbef rfl)
         have ev712 := Vals.at 2 hvs rfl (ready_of 2 hbef rfl)
         refine wpo_run rfl rfl ev712 rfl ?_
         have k713 := (hS494.blk.grown0 hi703)
         refine wpo_loadn (vs := [.int .i64 k, .int .i64 ((m : Int) % 4), .int .i64 ((m : Int) / 4 % 4), .int .i64 0, .int .i64 0, .slice none 0 0, .slice none 0 0, .int .i64 0]) rt_31 e707 rfl (k713.rangeL 0 8 rfl) rfl ?_
         exact wpo_nil ⟨B595, B600, cap601, B607, hi703, e704, e705, e706, e707, e708, c_3, c_5, fun h => undone 7 hS hcl rfl h, Vals.up 4 hvs rfl rfl rfl⟩
        refine preL_cons (fun S F w714 hS hbef hcl hI => ?_) ?_
        ·
         obtain ⟨B595, B600, cap601, B607, hi715, e716, e717, e718, e719, e720, c_3, c_5, c_7, hvs⟩ := hI
         have hb721 := low0 hb495 hi715
         have ev722 := Vals.at 0 hvs rfl (ready_of 0 hbef rfl)
         have ev723 := Vals.at 1 hvs rfl (ready_of 1 hbef rfl)
         have ev724 := Vals.at 2 hvs rfl (ready_of 2 hbef rfl)
         have ev725 := Vals.at 4 hvs rfl (ready_of 6 hbef rfl)
         refine wpo_run rfl rfl ev724 rfl ?_
         refine wpo_buildSlice (ps := [(0, .agg #[.int .i64 k, .int .i64 ((m : Int) % 4), .int .i64 ((m : Int) / 4 % 4), .int .i64 0, .int .i64 0, .slice none 0 0, .slice none 0 0, .int .i64 0])]) (e := 31) (cs := (([mkNew k ⟨(m : Int) % 4, (m : Int) / 4 % 4⟩ [] 0 none 0] : List MTh).flatMap MTh.cells).toArray) (parts_cons ev725 parts_nil) (fun _ => by kernel_rfl) rfl ?_
         intro B726 w727 hN728
         have hlB726 := hN_ge hN728 hb721
         have hhiB726 : hi ≤ B726 := Nat.le_trans (Nat.le_trans (Nat.le_trans (Nat.le_trans (Nat.le_trans (Nat.le_trans hhs hg156.size) hg487.size) hN491.grw.size) hS494.grw.size) hi715.size) (Nat.le_of_eq hN728.eq.symm)
         have k729 := (hS494.blk.grown0 hi715)
         have lt_B489_B726 := hN_gtl hN728 (k729).lt
         have hb730 := low0 hb721 hN728.grw
         exact wpo_nil ⟨B595, B600, cap601, B726, (low0 hi715 hN728.grw), e716, e717, e718, e719, e720, fun h => let ⟨y731, y732, y733, y734, y735⟩ := c_3 h; ⟨y731, y732, (y733).grown0 hN728.grw, y734, y735⟩, fun h => let ⟨y736, y737, y738, y739, y740, y741⟩ := c_5 h; ⟨y736, y737, (y738).grown0 hN728.grw, y739, y740, y741⟩, fun _ => ⟨rfl, hlB726, hN728.blk, lt_B489_B726, (Nat.le_trans hi715.size (Nat.le_of_eq hN728.eq.symm))⟩, Vals.keep hvs rfl⟩
        exact preL_nil
       ·
        intro S F w742 hall hI
        obtain ⟨B595, B600, cap601, B607, hi743, e744, e745, e746, e747, e748, c_3, c_5, c_7, hvs⟩ := hI
        have hb749 := low0 hb495 hi743
        have ev750 := Vals.at 0 hvs rfl (hall 0 (by decide))
        have ev751 := Vals.at 1 hvs rfl (hall 1 (by decide))
        have ev752 := Vals.at 2 hvs rfl (hall 2 (by decide))
        obtain ⟨e753, hlB595, kb_B595, lt_B489_B595, hk_B595⟩ := c_3 (hall 3 (by decide))
        have ev754 := Vals.at 3 hvs rfl (hall 4 (by decide))
        obtain ⟨e755, hlB600, kb_B600, lt_B489_B600, lt_B595_B600, hk_B600⟩ := c_5 (hall 5 (by decide))
        have ev756 := Vals.at 4 hvs rfl (hall 6 (by decide))
        obtain ⟨e757, hlB607, kb_B607, lt_B489_B607, hk_B607⟩ := c_7 (hall 7 (by decide))
        refine wpo_run rfl rfl ev752 rfl ?_
        have k758 := (hS494.blk.grown0 hi743)
        refine wpo_append (g := MTh.cells) (ys := ms117) (zs := [mkNew k ⟨(m : Int) % 4, (m : Int) / 4 % 4⟩ [] 0 none 0]) mk_23 rfl wide_mth (by omega) onec_mth e755 e757 kb_B600 (rows_sl wide_mth kb_B607) (by simp only [List.length_cons, List.length_nil]; omega) (by omega) rfl ?_
        intro B759 cap760 w761 hO762 hg763 hor764
        have hlB759 : w.heap.size ≤ B759 := by rcases hor764 with h | h; (rw [h]; omega); (rw [h]; exact hb749.size)
        have hhiB759 : hi ≤ B759 := by rcases hor764 with h | h; (rw [h]; omega); (rw [h]; exact (Nat.le_trans (Nat.le_trans (Nat.le_trans (Nat.le_trans (Nat.le_trans hhs hg156.size) hg487.size) hN491.grw.size) hS494.grw.size) hi743.size))
        have hb765 := low1 hb749 hg763 (by omega)
        have hxl766 := snoc_len (ms := ms117) (X := mkNew k ⟨(m : Int) % 4, (m : Int) / 4 % 4⟩ [] 0 none 0)
        have htx767 : tableOk (tabT (ms117 ++ [mkNew k ⟨(m : Int) % 4, (m : Int) / 4 % 4⟩ [] 0 none 0])) = true := newX_ok h125 (by omega) (mkNew_n h158) (by omega) lab4_ok
        refine wpo_run rfl rfl ev752 rfl ?_
        have hTG768 := (TabG.ge (TabG.low (TabG.ge (TabG.low (TabG.low (TabG.low hGl hg156) hg487) hN491.grw) hS494.grw hTH (by omega)) hi743) hg763 hTH (by omega))
        refine wpo_call (vs := [.slice (some ⟨B759, 0, none⟩) ((ms117 ++ [mkNew k ⟨(m : Int) % 4, (m : Int) / 4 % 4⟩ [] 0 none 0]).length) cap760]) gf_10 (args_cons rfl args_nil) rfl (TableOk_c  _ (ms117 ++ [mkNew k ⟨(m : Int) % 4, (m : Int) / 4 % 4⟩ [] 0 none 0]) _ _ (tabAt_snoc hO762 (TabG.at hTG768) thNew_n) (tabLen_snoc hTl124 mkNew_len_n) (by simp only [List.length_append, List.length_cons, List.length_nil]; omega)) ?_
        rintro _ w769 ⟨rfl, hg770⟩
        have hb771 := low0 hb765 hg770
        refine wpo_run rfl rfl ev752 rfl ?_
        refine wpo_not (b' := !tableOk (tabT (ms117 ++ [mkNew k ⟨(m : Int) % 4, (m : Int) / 4 % 4⟩ [] 0 none 0]))) rfl rfl rfl ?_
        refine wpo_pickf (v := .bool (!tableOk (tabT (ms117 ++ [mkNew k ⟨(m : Int) % 4, (m : Int) / 4 % 4⟩ [] 0 none 0])))) ev752 rfl rfl rfl ?_
        refine wpo_nil ?_
        refine thn_n ?_
        refine wpf_condf rfl (not_of_t htx767) ?_
        refine wpf_skip ?_
        refine blk_n ?_
        refine thn_n ?_
        refine wpf_region ?_
        refine wpo_move (v := .int .i64 k) e746 rfl ?_
        refine wpo_add (c := k + 1) rfl rfl (by omega) (by omega) (by omega) rfl ?_
        refine wpo_assign (v := .int .i64 (k + 1)) rfl rfl ?_
        refine wpo_nil ?_
        refine thn_n ?_
        have hTG772 := (TabG.low hTG768 hg770)
        exact ⟨((5 : Int) - (k + 1)).toNat, by omega, (k + 1), rfl, (by omega), hTG772, (Nat.le_trans (Nat.le_trans (Nat.le_trans (Nat.le_trans (Nat.le_trans (Nat.le_trans (Nat.le_trans hhs hg156.size) hg487.size) hN491.grw.size) hS494.grw.size) hi743.size) hg763.size) hg770.size), rfl, e744, e745, hb771⟩
     ·
      have h773 := of_decide_eq_false h153
      refine wpf_exit ?_
      refine thn_e ?_
      refine thn_e ?_
      refine blk_e ?_
      refine thn_n ?_
      refine wpf_seq ?_
      refine wpf_seq_region ?_
      refine wpo_assign (v := .int .i64 1) rfl rfl ?_
      refine wpo_nil ?_
      refine wpf_block ?_
      refine wpf_loopN (fun mm f' w' => ∃ (k : Int), mm = ((ms117.length : Int) + 1 - k).toNat ∧ (1 ≤ k ∧ k ≤ (ms117.length : Int) + 1) ∧ TabG w.heap.size w' (some ⟨B115, 0, none⟩) ms117 ∧ hi ≤ w'.heap.size ∧ f' 10 = .int .i64 k ∧ f' 1 = .slice a2 m c2 ∧ f' 5 = .slice (some ⟨B115, 0, none⟩) ms117.length cap116 ∧ w.grownBy w' none) (((ms117.length : Int) + 1 - 1).toNat) ⟨1, rfl, (by omega), hGl, hhs, rfl, e151, e152, hb148⟩ ?_
      rintro mm f774 w775 ⟨k, hm777, hk, hGl, hhs, e778, e779, e780, hb776⟩
      refine wpf_seq ?_
      refine wpf_seq_region ?_
      refine wpo_move (v := .int .i64 k) e778 rfl ?_
      refine wpo_move (v := .slice (some ⟨B115, 0, none⟩) ms117.length cap116) e780 rfl ?_
      refine wpo_len (by kernel_rfl) rfl rfl ?_
      refine wpo_leq (q := decide (k ≤ (ms117.length : Int))) rfl rfl rfl rfl ?_
      refine wpo_nil ?_
      refine wpf_cond rfl (fun h781 => ?_) (fun h781 => ?_)
      ·
       have h782 := of_decide_eq_true h781
       refine wpf_skip ?_
       refine thn_n ?_
       refine wpf_seq ?_
       refine wpf_block ?_
       refine wpf_seq_region ?_
       refine wpo_move (v := .slice a2 m c2) e779 rfl ?_
       refine wpo_len (by kernel_rfl) rfl rfl ?_
       refine wpo_call (vs := [.int .i64 (m : Int)]) gf_9 (args_cons rfl args_nil) rfl (ldLabel_c (m : Int) (by omega) _) ?_
       rintro _ w783 ⟨rfl, hg784⟩
       have hb785 := low0 hb776 hg784
       refine wpo_move (v := .int .i64 k) e778 rfl ?_
       have hno786 : newOk 5 ⟨(m : Int) % 4, (m : Int) / 4 % 4⟩ k = true := newOk_5 (by omega) lab4_ok
       have h787 : thingOk (⟨5, ⟨(m : Int) % 4, (m : Int) / 4 % 4⟩, 0, 0, [], [], k⟩ : Th) = true := (newOk_n (by decide)).symm.trans hno786
       refine wpo_call (vs := [.int .i64 5, .agg #[.int .i64 ((m : Int) % 4), .int .i64 ((m : Int) / 4 % 4)], .int .i64 k]) gf_8 (args_cons rfl (args_cons rfl (args_cons rfl args_nil))) rfl (ThingNew_nt 5 k ⟨(m : Int) % 4, (m : Int) / 4 % 4⟩ (by decide) hno786 _) ?_
       rintro _ w788 ⟨rfl, hg789⟩
       have hb790 := low0 hb785 hg789
       have htx791 : tableOk (tabT (ms117 ++ [mkNew 5 ⟨(m : Int) % 4, (m : Int) / 4 % 4⟩ [] k none 0])) = decide ((mAt ms117 ((k - 1).toNat)).t.kind = 1) := newX_gate h125 (by omega) (mkNew_n (by decide)) (by omega) lab4_ok
       have hgt792 : decide (tableOk (tabT (ms117 ++ [mkNew 5 ⟨(m : Int) % 4, (m : Int) / 4 % 4⟩ [] k none 0])) = (decide ((mAt ms117 ((k - 1).toNat)).t.kind = 1))) = true := decide_eq_true htx791
       refine wpo_move (v := .tuple #[.agg #[.int .i64 5, .int .i64 ((m : Int) % 4), .int .i64 ((m : Int) / 4 % 4), .int .i64 0, .int .i64 0, .slice none 0 0, .slice none 0 0, .int .i64 k], .bool true]) rfl rfl ?_
       refine wpo_extract (v := .agg #[.int .i64 5, .int .i64 ((m : Int) % 4), .int .i64 ((m : Int) / 4 % 4), .int .i64 0, .int .i64 0, .slice none 0 0, .slice none 0 0, .int .i64 k]) rfl rfl rfl ?_
       refine wpo_extract (v := .bool true) rfl rfl rfl ?_
       refine wpo_alloc (cs := #[.int .i64 0, .int .i64 0, .int .i64 0, .int .i64 0, .int .i64 0, .slice none 0 0, .slice none 0 0, .int .i64 0]) zt_31 rfl rfl ?_
       intro B793 w794 hN795
       have hlB793 := hN_ge hN795 hb790
       have hhiB793 : hi ≤ B793 := Nat.le_trans (Nat.le_trans (Nat.le_trans hhs hg784.size) hg789.size) (Nat.le_of_eq hN795.eq.symm)
       have hb796 := low0 hb790 hN795.grw
       refine wpo_storen (vs := [.int .i64 5, .int .i64 ((m : Int) % 4), .int .i64 ((m : Int) / 4 % 4), .int .i64 0, .int .i64 0, .slice none 0 0, .slice none 0 0, .int .i64 k]) (cs' := #[.int .i64 5, .int .i64 ((m : Int) % 4), .int .i64 ((m : Int) / 4 % 4), .int .i64 0, .int .i64 0, .slice none 0 0, .slice none 0 0, .int .i64 k]) rt_31 rfl rfl rfl (by simp [Value.oneCell']) hN795.blk (Nat.le_of_ble_eq_true rfl) rfl ?_
       intro w797 hS798
       have hb799 := low1 hb796 hS798.grw (by omega)
       refine wpo_assign (v := .bool true) rfl rfl ?_
       refine wpo_nil ?_
       refine wpf_seq ?_
       have hTG927 := (TabG.ge (TabG.low (TabG.low (TabG.low hGl hg784) hg789) hN795.grw) hS798.grw hTH (by omega))
       obtain ⟨b921, q922, o923, ha924, ho925, hr926⟩ := SlAt.at (TabG.at hTG927).1 (map_get (mAt_get (show (k - 1).toNat < ms117.length by omega)))
       have hle928 := TabLen.at hTl124 (mAt_get (show (k - 1).toNat < ms117.length by omega))
       have hz962 : hi ≤ w797.heap.size := (Nat.le_trans (Nat.le_trans (Nat.le_trans (Nat.le_trans hhs hg784.size) hg789.size) hN795.grw.size) hS798.grw.size)
       refine wpf_drawI (m := 17) [[], [0], [0, 1], [0, 1, 2], [0, 1, 2], [0, 1, 2, 3, 4], [0, 1, 2], [0, 1, 2, 6], [0, 1, 2, 3, 4, 5, 6, 7], [0, 1, 2, 3, 4, 5, 6, 7, 8], [0, 1, 2], [0, 1, 2], [0, 1, 2, 11], [0, 1, 2, 10, 11, 12], [0, 1, 2, 10, 11, 12, 13], [0, 1, 2, 10, 11, 12, 13, 14], [0, 1, 2, 10, 11, 12, 13, 14, 15], [0, 1, 2, 3, 4, 5, 6, 7, 8, 9, 10, 11, 12, 13, 14, 15, 16], [0, 1, 2, 3, 4, 5, 6, 7, 8, 9, 10, 11, 12, 13, 14, 15, 16, 17]] (fun S F w' => ∃ (B929 : Nat) (B934 : Nat) (cap935 : Nat) (B941 : Nat) (B949 : Nat) (cap950 : Nat), w797.grownBy w' none ∧ F 1 = .slice a2 m c2 ∧ F 5 = .slice (some ⟨B115, 0, none⟩) ms117.length cap116 ∧ F 10 = .int .i64 k ∧ F 11 = .pointer (some ⟨B793, 0, none⟩) ∧ F 12 = .bool true ∧ (S 3 = true → F 83 = .slice (some ⟨B929, 0, none⟩) 0 0 ∧ w.heap.size ≤ B929 ∧ Blk w' B929 31 (([] : List MTh).flatMap MTh.cells).toArray ∧ B793 < B929 ∧ w797.heap.size ≤ B929) ∧ (S 5 = true → F 85 = .slice (some ⟨B934, 0, none⟩) ms117.length cap935 ∧ w.heap.size ≤ B934 ∧ (S 8 = false → Dw.Own w' B934 31 8 cap935 ms117.length (ms117.flatMap MTh.cells)) ∧ B793 < B934 ∧ B929 < B934 ∧ w797.heap.size ≤ B934 ∧ B934 < w'.heap.size) ∧ (S 7 = true → F 87 = .slice (some ⟨B941, 0, none⟩) 1 1 ∧ w.heap.size ≤ B941 ∧ Blk w' B941 31 (([mkNew 5 ⟨(m : Int) % 4, (m : Int) / 4 % 4⟩ [] k none 0] : List MTh).flatMap MTh.cells).toArray ∧ B793 < B941 ∧ w797.heap.size ≤ B941) ∧ (S 8 = true → F 88 = .slice (some ⟨B949, 0, none⟩) ((ms117 ++ [mkNew 5 ⟨(m : Int) % 4, (m : Int) / 4 % 4⟩ [] k none 0]).length) cap950 ∧ w.heap.size ≤ B949 ∧ Dw.Own w' B949 31 8 cap950 (ms117 ++ [mkNew 5 ⟨(m : Int) % 4, (m : Int) / 4 % 4⟩ [] k none 0]).length ((ms117 ++ [mkNew 5 ⟨(m : Int) % 4, (m : Int) / 4 % 4⟩ [] k none 0]).flatMap MTh.cells)) ∧ Vals S F [(0, 80, .bool true), (1, 81, .bool false), (2, 82, .bool false), (4, 84, .slice (some ⟨B115, 0, none⟩) ms117.length cap116), (6, 86, .agg #[.int .i64 5, .int .i64 ((m : Int) % 4), .int .i64 ((m : Int) / 4 % 4), .int .i64 0, .int .i64 0, .slice none 0 0, .slice none 0 0, .int .i64 k]), (9, 89, .bool (tableOk (tabT (ms117 ++ [mkNew 5 ⟨(m : Int) % 4, (m : Int) / 4 % 4⟩ [] k none 0])))), (10, 90, .slice (some ⟨B115, 0, none⟩) ms117.length cap116), (11, 91, .int .i64 k), (12, 92, .int .i64 (k - 1)), (13, 93, .pointer (some ⟨b921, o923, none⟩)), (14, 94, .pointer (some ⟨b921, o923, none⟩)), (15, 95, .int .i64 ((mAt ms117 ((k - 1).toNat)).t.kind)), (16, 96, .bool (decide ((mAt ms117 ((k - 1).toNat)).t.kind = 1)))] ∧ (S 3 = true → S 7 = true → B929 ≠ B941) ∧ (S 5 = true → S 7 = true → B934 ≠ B941)) mixed_ (by kernel_rfl) ⟨0, 0, 0, 0, 0, 0, grown_drew _, e779, e780, e778, rfl, rfl, not_begun, not_begun, not_begun, not_begun, vals_0 _, not_begun, not_begun⟩ ?_ ?_
       ·
        refine preL_cons (fun S F w963 hS hbef hcl hI => ?_) ?_
        ·
         obtain ⟨B929, B934, cap935, B941, B949, cap950, hi964, e965, e966, e967, e968, e969, c_3, c_5, c_7, c_8, hvs, pr_B929_B941, pr_B934_B941⟩ := hI
         have hb970 := low0 hb799 hi964
         refine wpo_move (v := .bool true) e969 rfl ?_
         exact wpo_nil ⟨B929, B934, cap935, B941, B949, cap950, hi964, e965, e966, e967, e968, e969, fun h => undone 3 hS hcl rfl h, fun h => undone 5 hS hcl rfl h, fun h => undone 7 hS hcl rfl h, fun h => undone 8 hS hcl rfl h, Vals.up 0 hvs rfl rfl rfl, pr_B929_B941, pr_B934_B941⟩
        refine preL_cons (fun S F w971 hS hbef hcl hI => ?_) ?_
        ·
         obtain ⟨B929, B934, cap935, B941, B949, cap950, hi972, e973, e974, e975, e976, e977, c_3, c_5, c_7, c_8, hvs, pr_B929_B941, pr_B934_B941⟩ := hI
         have hb978 := low0 hb799 hi972
         have ev979 := Vals.at 0 hvs rfl (ready_of 0 hbef rfl)
         refine wpo_not (b' := false) ev979 rfl rfl ?_
         exact wpo_nil ⟨B929, B934, cap935, B941, B949, cap950, hi972, e973, e974, e975, e976, e977, fun h => undone 3 hS hcl rfl h, fun h => undone 5 hS hcl rfl h, fun h => undone 7 hS hcl rfl h, fun h => undone 8 hS hcl rfl h, Vals.up 1 hvs rfl rfl rfl, pr_B929_B941, pr_B934_B941⟩
        refine preL_cons (fun S F w980 hS hbef hcl hI => ?_) ?_
        ·
         obtain ⟨B929, B934, cap935, B941, B949, cap950, hi981, e982, e983, e984, e985, e986, c_3, c_5, c_7, c_8, hvs, pr_B929_B941, pr_B934_B941⟩ := hI
         have hb987 := low0 hb799 hi981
         have ev988 := Vals.at 0 hvs rfl (ready_of 0 hbef rfl)
         have ev989 := Vals.at 1 hvs rfl (ready_of 1 hbef rfl)
         refine wpo_move (v := .bool false) ev989 rfl ?_
         exact wpo_nil ⟨B929, B934, cap935, B941, B949, cap950, hi981, e982, e983, e984, e985, e986, fun h => undone 3 hS hcl rfl h, fun h => undone 5 hS hcl rfl h, fun h => undone 7 hS hcl rfl h, fun h => undone 8 hS hcl rfl h, Vals.up 2 hvs rfl rfl rfl, pr_B929_B941, pr_B934_B941⟩
        refine preL_cons (fun S F w990 hS hbef hcl hI => ?_) ?_
        ·
         obtain ⟨B929, B934, cap935, B941, B949, cap950, hi991, e992, e993, e994, e995, e996, c_3, c_5, c_7, c_8, hvs, pr_B929_B941, pr_B934_B941⟩ := hI
         have hb997 := low0 hb799 hi991
         have ev998 := Vals.at 0 hvs rfl (ready_of 0 hbef rfl)
         have ev999 := Vals.at 1 hvs rfl (ready_of 1 hbef rfl)
         have ev1000 := Vals.at 2 hvs rfl (ready_of 2 hbef rfl)
         refine wpo_run rfl rfl ev1000 rfl ?_
         refine wpo_buildSlice (ps := []) (e := 31) (cs := (([] : List MTh).flatMap MTh.cells).toArray) parts_nil (fun _ => by kernel_rfl) rfl ?_
         intro B1001 w1002 hN1003
         have hlB1001 := hN_ge hN1003 hb997
         have hhiB1001 : hi ≤ B1001 := Nat.le_trans (Nat.le_trans (Nat.le_trans (Nat.le_trans (Nat.le_trans (Nat.le_trans hhs hg784.size) hg789.size) hN795.grw.size) hS798.grw.size) hi991.size) (Nat.le_of_eq hN1003.eq.symm)
         have k1004 := (hS798.blk.grown0 hi991)
         have lt_B793_B1001 := hN_gtl hN1003 (k1004).lt
         have hb1005 := low0 hb997 hN1003.grw
         exact wpo_nil ⟨B1001, B934, cap935, B941, B949, cap950, (low0 hi991 hN1003.grw), e992, e993, e994, e995, e996, fun _ => ⟨rfl, hlB1001, hN1003.blk, lt_B793_B1001, (Nat.le_trans hi991.size (Nat.le_of_eq hN1003.eq.symm))⟩, fun h => undone 5 hS hcl rfl h, fun h => let ⟨y1006, y1007, y1008, y1009, y1010⟩ := c_7 h; ⟨y1006, y1007, (y1008).grown0 hN1003.grw, y1009, y1010⟩, fun h => undone 8 hS hcl rfl h, Vals.keep hvs rfl, fun _ h => let ⟨y1011, y1012, y1013, y1014, y1015⟩ := c_7 h; Nat.ne_of_gt (Nat.lt_of_lt_of_le ((y1013).lt) (Nat.le_of_eq hN1003.eq.symm)), pr_B934_B941⟩
        refine preL_cons (fun S F w1016 hS hbef hcl hI => ?_) ?_
        ·
         obtain ⟨B929, B934, cap935, B941, B949, cap950, hi1017, e1018, e1019, e1020, e1021, e1022, c_3, c_5, c_7, c_8, hvs, pr_B929_B941, pr_B934_B941⟩ := hI
         have hb1023 := low0 hb799 hi1017
         have ev1024 := Vals.at 0 hvs rfl (ready_of 0 hbef rfl)
         have ev1025 := Vals.at 1 hvs rfl (ready_of 1 hbef rfl)
         have ev1026 := Vals.at 2 hvs rfl (ready_of 2 hbef rfl)
         refine wpo_run rfl rfl ev1026 rfl ?_
         refine wpo_move (v := .slice (some ⟨B115, 0, none⟩) ms117.length cap116) e1019 rfl ?_
         exact wpo_nil ⟨B929, B934, cap935, B941, B949, cap950, hi1017, e1018, e1019, e1020, e1021, e1022, c_3, fun h => undone 5 hS hcl rfl h, c_7, fun h => undone 8 hS hcl rfl h, Vals.up 3 hvs rfl rfl rfl, pr_B929_B941, pr_B934_B941⟩
        refine preL_cons (fun S F w1027 hS hbef hcl hI => ?_) ?_
        ·
         obtain ⟨B929, B934, cap935, B941, B949, cap950, hi1028, e1029, e1030, e1031, e1032, e1033, c_3, c_5, c_7, c_8, hvs, pr_B929_B941, pr_B934_B941⟩ := hI
         have hb1034 := low0 hb799 hi1028
         have ev1035 := Vals.at 0 hvs rfl (ready_of 0 hbef rfl)
         have ev1036 := Vals.at 1 hvs rfl (ready_of 1 hbef rfl)
         have ev1037 := Vals.at 2 hvs rfl (ready_of 2 hbef rfl)
         obtain ⟨e1038, hlB929, kb_B929, lt_B793_B929, hk_B929⟩ := c_3 (ready_of 3 hbef rfl)
         have ev1039 := Vals.at 3 hvs rfl (ready_of 4 hbef rfl)
         refine wpo_run rfl rfl ev1037 rfl ?_
         have hTG1040 := (TabG.low hTG927 hi1028)
         refine wpo_append0 (g := MTh.cells) (zs := ms117) mk_23 rfl wide_mth (by omega) e1038 ev1039 (TabG.at hTG1040).1 (by omega) (by omega) (by omega) rfl ?_
         intro B1041 cap1042 w1043 hN1044
         have hlB1041 := nO_ge hN1044 hb1034
         have hhiB1041 : hi ≤ B1041 := Nat.le_trans (Nat.le_trans (Nat.le_trans (Nat.le_trans (Nat.le_trans (Nat.le_trans hhs hg784.size) hg789.size) hN795.grw.size) hS798.grw.size) hi1028.size) (Nat.le_of_eq hN1044.eq.symm)
         have k1045 := (hS798.blk.grown0 hi1028)
         have lt_B793_B1041 := nO_gtl hN1044 (k1045).lt
         have lt_B929_B1041 := nO_gtl hN1044 (kb_B929).lt
         have hb1046 := low0 hb1034 hN1044.grw
         exact wpo_nil ⟨B929, B1041, cap1042, B941, B949, cap950, (low0 hi1028 hN1044.grw), e1029, e1030, e1031, e1032, e1033, fun h => let ⟨y1047, y1048, y1049, y1050, y1051⟩ := c_3 h; ⟨y1047, y1048, (y1049).grown0 hN1044.grw, y1050, y1051⟩, fun _ => ⟨rfl, hlB1041, fun _ => hN1044.own, lt_B793_B1041, lt_B929_B1041, (Nat.le_trans hi1028.size (Nat.le_of_eq hN1044.eq.symm)), (hN1044.own).lt⟩, fun h => let ⟨y1052, y1053, y1054, y1055, y1056⟩ := c_7 h; ⟨y1052, y1053, (y1054).grown0 hN1044.grw, y1055, y1056⟩, fun h => undone 8 hS hcl rfl h, Vals.keep hvs rfl, pr_B929_B941, fun _ h => let ⟨y1057, y1058, y1059, y1060, y1061⟩ := c_7 h; Nat.ne_of_gt (Nat.lt_of_lt_of_le ((y1059).lt) (Nat.le_of_eq hN1044.eq.symm))⟩
        refine preL_cons (fun S F w1062 hS hbef hcl hI => ?_) ?_
        ·
         obtain ⟨B929, B934, cap935, B941, B949, cap950, hi1063, e1064, e1065, e1066, e1067, e1068, c_3, c_5, c_7, c_8, hvs, pr_B929_B941, pr_B934_B941⟩ := hI
         have hb1069 := low0 hb799 hi1063
         have ev1070 := Vals.at 0 hvs rfl (ready_of 0 hbef rfl)
         have ev1071 := Vals.at 1 hvs rfl (ready_of 1 hbef rfl)
         have ev1072 := Vals.at 2 hvs rfl (ready_of 2 hbef rfl)
         refine wpo_run rfl rfl ev1072 rfl ?_
         have k1073 := (hS798.blk.grown0 hi1063)
         refine wpo_loadn (vs := [.int .i64 5, .int .i64 ((m : Int) % 4), .int .i64 ((m : Int) / 4 % 4), .int .i64 0, .int .i64 0, .slice none 0 0, .slice none 0 0, .int .i64 k]) rt_31 e1067 rfl (k1073.rangeL 0 8 rfl) rfl ?_
         exact wpo_nil ⟨B929, B934, cap935, B941, B949, cap950, hi1063, e1064, e1065, e1066, e1067, e1068, c_3, c_5, fun h => undone 7 hS hcl rfl h, fun h => undone 8 hS hcl rfl h, Vals.up 4 hvs rfl rfl rfl, pr_B929_B941, pr_B934_B941⟩
        refine preL_cons (fun S F w1074 hS hbef hcl hI => ?_) ?_
        ·
         obtain ⟨B929, B934, cap935, B941, B949, cap950, hi1075, e1076, e1077, e1078, e1079, e1080, c_3, c_5, c_7, c_8, hvs, pr_B929_B941, pr_B934_B941⟩ := hI
         have hb1081 := low0 hb799 hi1075
         have ev1082 := Vals.at 0 hvs rfl (ready_of 0 hbef rfl)
         have ev1083 := Vals.at 1 hvs rfl (ready_of 1 hbef rfl)
         have ev1084 := Vals.at 2 hvs rfl (ready_of 2 hbef rfl)
         have ev1085 := Vals.at 4 hvs rfl (ready_of 6 hbef rfl)
         refine wpo_run rfl rfl ev1084 rfl ?_
         refine wpo_buildSlice (ps := [(0, .agg #[.int .i64 5, .int .i64 ((m : Int) % 4), .int .i64 ((m : Int) / 4 % 4), .int .i64 0, .int .i64 0, .slice none 0 0, .slice none 0 0, .int .i64 k])]) (e := 31) (cs := (([mkNew 5 ⟨(m : Int) % 4, (m : Int) / 4 % 4⟩ [] k none 0] : List MTh).flatMap MTh.cells).toArray) (parts_cons ev1085 parts_nil) (fun _ => by kernel_rfl) rfl ?_
         intro B1086 w1087 hN1088
         have hlB1086 := hN_ge hN1088 hb1081
         have hhiB1086 : hi ≤ B1086 := Nat.le_trans (Nat.le_trans (Nat.le_trans (Nat.le_trans (Nat.le_trans (Nat.le_trans hhs hg784.size) hg789.size) hN795.grw.size) hS798.grw.size) hi1075.size) (Nat.le_of_eq hN1088.eq.symm)
         have k1089 := (hS798.blk.grown0 hi1075)
         have lt_B793_B1086 := hN_gtl hN1088 (k1089).lt
         have hb1090 := low0 hb1081 hN1088.grw
         exact wpo_nil ⟨B929, B934, cap935, B1086, B949, cap950, (low0 hi1075 hN1088.grw), e1076, e1077, e1078, e1079, e1080, fun h => let ⟨y1091, y1092, y1093, y1094, y1095⟩ := c_3 h; ⟨y1091, y1092, (y1093).grown0 hN1088.grw, y1094, y1095⟩, fun h => let ⟨y1096, y1097, y1098, y1099, y1100, y1101, y1102⟩ := c_5 h; ⟨y1096, y1097, fun hn => (y1098 hn).grown0 hN1088.grw, y1099, y1100, y1101, (Nat.lt_of_lt_of_le y1102 hN1088.grw.size)⟩, fun _ => ⟨rfl, hlB1086, hN1088.blk, lt_B793_B1086, (Nat.le_trans hi1075.size (Nat.le_of_eq hN1088.eq.symm))⟩, fun h => undone 8 hS hcl rfl h, Vals.keep hvs rfl, fun h _ => let ⟨y1103, y1104, y1105, y1106, y1107⟩ := c_3 h; Nat.ne_of_lt (Nat.lt_of_lt_of_le ((y1105).lt) (Nat.le_of_eq hN1088.eq.symm)), fun h _ => let ⟨y1108, y1109, y1110, y1111, y1112, y1113, y1114⟩ := c_5 h; Nat.ne_of_lt (Nat.lt_of_lt_of_le (y1114) (Nat.le_of_eq hN1088.eq.symm))⟩
        refine preL_cons (fun S F w1115 hS hbef hcl hI => ?_) ?_
        ·
         obtain ⟨B929, B934, cap935, B941, B949, cap950, hi1116, e1117, e1118, e1119, e1120, e1121, c_3, c_5, c_7, c_8, hvs, pr_B929_B941, pr_B934_B941⟩ := hI
         have hb1122 := low0 hb799 hi1116
         have ev1123 := Vals.at 0 hvs rfl (ready_of 0 hbef rfl)
         have ev1124 := Vals.at 1 hvs rfl (ready_of 1 hbef rfl)
         have ev1125 := Vals.at 2 hvs rfl (ready_of 2 hbef rfl)
         obtain ⟨e1126, hlB929, kb_B929, lt_B793_B929, hk_B929⟩ := c_3 (ready_of 3 hbef rfl)
         have ev1127 := Vals.at 3 hvs rfl (ready_of 4 hbef rfl)
         obtain ⟨e1128, hlB934, kb_B934, lt_B793_B934, lt_B929_B934, hk_B934, hz_B934⟩ := c_5 (ready_of 5 hbef rfl)
         have ev1129 := Vals.at 4 hvs rfl (ready_of 6 hbef rfl)
         obtain ⟨e1130, hlB941, kb_B941, lt_B793_B941, hk_B941⟩ := c_7 (ready_of 7 hbef rfl)
         have ne_B929_B941 := pr_B929_B941 (ready_of 3 hbef rfl) (ready_of 7 hbef rfl)
         have ne_B934_B941 := pr_B934_B941 (ready_of 5 hbef rfl) (ready_of 7 hbef rfl)
         refine wpo_run rfl rfl ev1125 rfl ?_
         have k1131 := (hS798.blk.grown0 hi1116)
         refine wpo_append (g := MTh.cells) (ys := ms117) (zs := [mkNew 5 ⟨(m : Int) % 4, (m : Int) / 4 % 4⟩ [] k none 0]) mk_23 rfl wide_mth (by omega) onec_mth e1128 e1130 (kb_B934 hS) (rows_sl wide_mth kb_B941) (by simp only [List.length_cons, List.length_nil]; omega) (by omega) rfl ?_
         intro B1132 cap1133 w1134 hO1135 hg1136 hor1137
         have hlB1132 : w.heap.size ≤ B1132 := by rcases hor1137 with h | h; (rw [h]; omega); (rw [h]; exact hb1122.size)
         have hhiB1132 : hi ≤ B1132 := by rcases hor1137 with h | h; (rw [h]; omega); (rw [h]; exact (Nat.le_trans (Nat.le_trans (Nat.le_trans (Nat.le_trans (Nat.le_trans hhs hg784.size) hg789.size) hN795.grw.size) hS798.grw.size) hi1116.size))
         have hb1138 := low1 hb1122 hg1136 (by omega)
         have hxl1139 := snoc_len (ms := ms117) (X := mkNew 5 ⟨(m : Int) % 4, (m : Int) / 4 % 4⟩ [] k none 0)
         exact wpo_nil ⟨B929, B934, cap935, B941, B1132, cap1133, (low1 hi1116 hg1136 (by omega)), e1117, e1118, e1119, e1120, e1121, fun h => let ⟨y1141, y1142, y1143, y1144, y1145⟩ := c_3 h; ⟨y1141, y1142, (y1143).gn hg1136, y1144, y1145⟩, fun h => let ⟨y1146, y1147, y1148, y1149, y1150, y1151, y1152⟩ := c_5 h; ⟨y1146, y1147, fun h => not_open h, y1149, y1150, y1151, (Nat.lt_of_lt_of_le y1152 hg1136.size)⟩, fun h => let ⟨y1153, y1154, y1155, y1156, y1157⟩ := c_7 h; ⟨y1153, y1154, (y1155).grown hg1136 (some_ne (pr_B934_B941 (ready_of 5 hbef rfl) h).symm), y1156, y1157⟩, fun _ => ⟨rfl, hlB1132, hO1135⟩, Vals.keep hvs rfl, pr_B929_B941, pr_B934_B941⟩
        refine preL_cons (fun S F w1158 hS hbef hcl hI => ?_) ?_
        ·
         obtain ⟨B929, B934, cap935, B941, B949, cap950, hi1159, e1160, e1161, e1162, e1163, e1164, c_3, c_5, c_7, c_8, hvs, pr_B929_B941, pr_B934_B941⟩ := hI
         have hb1165 := low0 hb799 hi1159
         have ev1166 := Vals.at 0 hvs rfl (ready_of 0 hbef rfl)
         have ev1167 := Vals.at 1 hvs rfl (ready_of 1 hbef rfl)
         have ev1168 := Vals.at 2 hvs rfl (ready_of 2 hbef rfl)
         obtain ⟨e1169, hlB929, kb_B929, lt_B793_B929, hk_B929⟩ := c_3 (ready_of 3 hbef rfl)
         have ev1170 := Vals.at 3 hvs rfl (ready_of 4 hbef rfl)
         obtain ⟨e1171, hlB934, kb_B934, lt_B793_B934, lt_B929_B934, hk_B934, hz_B934⟩ := c_5 (ready_of 5 hbef rfl)
         have ev1172 := Vals.at 4 hvs rfl (ready_of 6 hbef rfl)
         obtain ⟨e1173, hlB941, kb_B941, lt_B793_B941, hk_B941⟩ := c_7 (ready_of 7 hbef rfl)
         obtain ⟨e1174, hlB949, kb_B949⟩ := c_8 (ready_of 8 hbef rfl)
         have ne_B929_B941 := pr_B929_B941 (ready_of 3 hbef rfl) (ready_of 7 hbef rfl)
         have ne_B934_B941 := pr_B934_B941 (ready_of 5 hbef rfl) (ready_of 7 hbef rfl)
         refine wpo_run rfl rfl ev1168 rfl ?_
         have hTG1175 := (TabG.low hTG927 hi1159)
         refine wpo_call (vs := [.slice (some ⟨B949, 0, none⟩) ((ms117 ++ [mkNew 5 ⟨(m : Int) % 4, (m : Int) / 4 % 4⟩ [] k none 0]).length) cap950]) gf_10 (args_cons e1174 args_nil) rfl (TableOk_c  _ (ms117 ++ [mkNew 5 ⟨(m : Int) % 4, (m : Int) / 4 % 4⟩ [] k none 0]) _ _ (tabAt_snoc kb_B949 (TabG.at hTG1175) thNew_n) (tabLen_snoc hTl124 mkNew_len_n) (by simp only [List.length_append, List.length_cons, List.length_nil]; omega)) ?_
         rintro _ w1176 ⟨rfl, hg1177⟩
         have hb1178 := low0 hb1165 hg1177
         exact wpo_nil ⟨B929, B934, cap935, B941, B949, cap950, (low0 hi1159 hg1177), e1160, e1161, e1162, e1163, e1164, fun h => let ⟨y1179, y1180, y1181, y1182, y1183⟩ := c_3 h; ⟨y1179, y1180, (y1181).grown0 hg1177, y1182, y1183⟩, fun h => let ⟨y1184, y1185, y1186, y1187, y1188, y1189, y1190⟩ := c_5 h; ⟨y1184, y1185, fun hn => not_open ((ready_of 8 hbef rfl).symm.trans hn), y1187, y1188, y1189, (Nat.lt_of_lt_of_le y1190 hg1177.size)⟩, fun h => let ⟨y1191, y1192, y1193, y1194, y1195⟩ := c_7 h; ⟨y1191, y1192, (y1193).grown0 hg1177, y1194, y1195⟩, fun h => let ⟨y1196, y1197, y1198⟩ := c_8 h; ⟨y1196, y1197, (y1198).grown0 hg1177⟩, Vals.up 5 hvs rfl rfl rfl, pr_B929_B941, pr_B934_B941⟩
        refine preL_cons (fun S F w1199 hS hbef hcl hI => ?_) ?_
        ·
         obtain ⟨B929, B934, cap935, B941, B949, cap950, hi1200, e1201, e1202, e1203, e1204, e1205, c_3, c_5, c_7, c_8, hvs, pr_B929_B941, pr_B934_B941⟩ := hI
         have hb1206 := low0 hb799 hi1200
         have ev1207 := Vals.at 0 hvs rfl (ready_of 0 hbef rfl)
         have ev1208 := Vals.at 1 hvs rfl (ready_of 1 hbef rfl)
         have ev1209 := Vals.at 2 hvs rfl (ready_of 2 hbef rfl)
         refine wpo_run rfl rfl ev1209 rfl ?_
         refine wpo_move (v := .slice (some ⟨B115, 0, none⟩) ms117.length cap116) e1202 rfl ?_
         exact wpo_nil ⟨B929, B934, cap935, B941, B949, cap950, hi1200, e1201, e1202, e1203, e1204, e1205, c_3, c_5, c_7, c_8, Vals.up 6 hvs rfl rfl rfl, pr_B929_B941, pr_B934_B941⟩
        refine preL_cons (fun S F w1210 hS hbef hcl hI => ?_) ?_
        ·
         obtain ⟨B929, B934, cap935, B941, B949, cap950, hi1211, e1212, e1213, e1214, e1215, e1216, c_3, c_5, c_7, c_8, hvs, pr_B929_B941, pr_B934_B941⟩ := hI
         have hb1217 := low0 hb799 hi1211
         have ev1218 := Vals.at 0 hvs rfl (ready_of 0 hbef rfl)
         have ev1219 := Vals.at 1 hvs rfl (ready_of 1 hbef rfl)
         have ev1220 := Vals.at 2 hvs rfl (ready_of 2 hbef rfl)
         refine wpo_run rfl rfl ev1220 rfl ?_
         refine wpo_move (v := .int .i64 k) e1214 rfl ?_
         exact wpo_nil ⟨B929, B934, cap935, B941, B949, cap950, hi1211, e1212, e1213, e1214, e1215, e1216, c_3, c_5, c_7, c_8, Vals.up 7 hvs rfl rfl rfl, pr_B929_B941, pr_B934_B941⟩
        refine preL_cons (fun S F w1221 hS hbef hcl hI => ?_) ?_
        ·
         obtain ⟨B929, B934, cap935, B941, B949, cap950, hi1222, e1223, e1224, e1225, e1226, e1227, c_3, c_5, c_7, c_8, hvs, pr_B929_B941, pr_B934_B941⟩ := hI
         have hb1228 := low0 hb799 hi1222
         have ev1229 := Vals.at 0 hvs rfl (ready_of 0 hbef rfl)
         have ev1230 := Vals.at 1 hvs rfl (ready_of 1 hbef rfl)
         have ev1231 := Vals.at 2 hvs rfl (ready_of 2 hbef rfl)
         have ev1232 := Vals.at 7 hvs rfl (ready_of 11 hbef rfl)
         refine wpo_run rfl rfl ev1231 rfl ?_
         refine wpo_sub (c := k - 1) ev1232 rfl (by omega) (by omega) (by omega) rfl ?_
         exact wpo_nil ⟨B929, B934, cap935, B941, B949, cap950, hi1222, e1223, e1224, e1225, e1226, e1227, c_3, c_5, c_7, c_8, Vals.up 8 hvs rfl rfl rfl, pr_B929_B941, pr_B934_B941⟩
        refine preL_cons (fun S F w1233 hS hbef hcl hI => ?_) ?_
        ·
         obtain ⟨B929, B934, cap935, B941, B949, cap950, hi1234, e1235, e1236, e1237, e1238, e1239, c_3, c_5, c_7, c_8, hvs, pr_B929_B941, pr_B934_B941⟩ := hI
         have hb1240 := low0 hb799 hi1234
         have ev1241 := Vals.at 0 hvs rfl (ready_of 0 hbef rfl)
         have ev1242 := Vals.at 1 hvs rfl (ready_of 1 hbef rfl)
         have ev1243 := Vals.at 2 hvs rfl (ready_of 2 hbef rfl)
         have ev1244 := Vals.at 6 hvs rfl (ready_of 10 hbef rfl)
         have ev1245 := Vals.at 7 hvs rfl (ready_of 11 hbef rfl)
         have ev1246 := Vals.at 8 hvs rfl (ready_of 12 hbef rfl)
         refine wpo_run rfl rfl ev1243 rfl ?_
         refine wpo_indexE es_23 ev1244 ev1246 ha924 ho925 (by omega) (by omega) rfl ?_
         exact wpo_nil ⟨B929, B934, cap935, B941, B949, cap950, hi1234, e1235, e1236, e1237, e1238, e1239, c_3, c_5, c_7, c_8, Vals.up 9 hvs rfl rfl rfl, pr_B929_B941, pr_B934_B941⟩
        refine preL_cons (fun S F w1247 hS hbef hcl hI => ?_) ?_
        ·
         obtain ⟨B929, B934, cap935, B941, B949, cap950, hi1248, e1249, e1250, e1251, e1252, e1253, c_3, c_5, c_7, c_8, hvs, pr_B929_B941, pr_B934_B941⟩ := hI
         have hb1254 := low0 hb799 hi1248
         have ev1255 := Vals.at 0 hvs rfl (ready_of 0 hbef rfl)
         have ev1256 := Vals.at 1 hvs rfl (ready_of 1 hbef rfl)
         have ev1257 := Vals.at 2 hvs rfl (ready_of 2 hbef rfl)
         have ev1258 := Vals.at 6 hvs rfl (ready_of 10 hbef rfl)
         have ev1259 := Vals.at 7 hvs rfl (ready_of 11 hbef rfl)
         have ev1260 := Vals.at 8 hvs rfl (ready_of 12 hbef rfl)
         have ev1261 := Vals.at 9 hvs rfl (ready_of 13 hbef rfl)
         refine wpo_run rfl rfl ev1257 rfl ?_
         refine wpo_fieldAddr (o' := o923) fo_31_0 ev1261 rfl rfl ?_
         exact wpo_nil ⟨B929, B934, cap935, B941, B949, cap950, hi1248, e1249, e1250, e1251, e1252, e1253, c_3, c_5, c_7, c_8, Vals.up 10 hvs rfl rfl rfl, pr_B929_B941, pr_B934_B941⟩
        refine preL_cons (fun S F w1262 hS hbef hcl hI => ?_) ?_
        ·
         obtain ⟨B929, B934, cap935, B941, B949, cap950, hi1263, e1264, e1265, e1266, e1267, e1268, c_3, c_5, c_7, c_8, hvs, pr_B929_B941, pr_B934_B941⟩ := hI
         have hb1269 := low0 hb799 hi1263
         have ev1270 := Vals.at 0 hvs rfl (ready_of 0 hbef rfl)
         have ev1271 := Vals.at 1 hvs rfl (ready_of 1 hbef rfl)
         have ev1272 := Vals.at 2 hvs rfl (ready_of 2 hbef rfl)
         have ev1273 := Vals.at 6 hvs rfl (ready_of 10 hbef rfl)
         have ev1274 := Vals.at 7 hvs rfl (ready_of 11 hbef rfl)
         have ev1275 := Vals.at 8 hvs rfl (ready_of 12 hbef rfl)
         have ev1276 := Vals.at 9 hvs rfl (ready_of 13 hbef rfl)
         have ev1277 := Vals.at 10 hvs rfl (ready_of 14 hbef rfl)
         refine wpo_run rfl rfl ev1272 rfl ?_
         refine wpo_load1 (v := .int .i64 ((mAt ms117 ((k - 1).toNat)).t.kind)) ot_3 ev1277 ((range_low hr926 hi1263) 0 _ rfl) rfl ?_
         exact wpo_nil ⟨B929, B934, cap935, B941, B949, cap950, hi1263, e1264, e1265, e1266, e1267, e1268, c_3, c_5, c_7, c_8, Vals.up 11 hvs rfl rfl rfl, pr_B929_B941, pr_B934_B941⟩
        refine preL_cons (fun S F w1278 hS hbef hcl hI => ?_) ?_
        ·
         obtain ⟨B929, B934, cap935, B941, B949, cap950, hi1279, e1280, e1281, e1282, e1283, e1284, c_3, c_5, c_7, c_8, hvs, pr_B929_B941, pr_B934_B941⟩ := hI
         have hb1285 := low0 hb799 hi1279
         have ev1286 := Vals.at 0 hvs rfl (ready_of 0 hbef rfl)
         have ev1287 := Vals.at 1 hvs rfl (ready_of 1 hbef rfl)
         have ev1288 := Vals.at 2 hvs rfl (ready_of 2 hbef rfl)
         have ev1289 := Vals.at 6 hvs rfl (ready_of 10 hbef rfl)
         have ev1290 := Vals.at 7 hvs rfl (ready_of 11 hbef rfl)
         have ev1291 := Vals.at 8 hvs rfl (ready_of 12 hbef rfl)
         have ev1292 := Vals.at 9 hvs rfl (ready_of 13 hbef rfl)
         have ev1293 := Vals.at 10 hvs rfl (ready_of 14 hbef rfl)
         have ev1294 := Vals.at 11 hvs rfl (ready_of 15 hbef rfl)
         refine wpo_run rfl rfl ev1288 rfl ?_
         refine wpo_eql (q := decide ((mAt ms117 ((k - 1).toNat)).t.kind = 1)) ev1294 rfl rfl rfl ?_
         exact wpo_nil ⟨B929, B934, cap935, B941, B949, cap950, hi1279, e1280, e1281, e1282, e1283, e1284, c_3, c_5, c_7, c_8, Vals.up 12 hvs rfl rfl rfl, pr_B929_B941, pr_B934_B941⟩
        exact preL_nil
       ·
        intro S F w1295 hall hI
        obtain ⟨B929, B934, cap935, B941, B949, cap950, hi1296, e1297, e1298, e1299, e1300, e1301, c_3, c_5, c_7, c_8, hvs, pr_B929_B941, pr_B934_B941⟩ := hI
        have hb1302 := low0 hb799 hi1296
        have ev1303 := Vals.at 0 hvs rfl (hall 0 (by decide))
        have ev1304 := Vals.at 1 hvs rfl (hall 1 (by decide))
        have ev1305 := Vals.at 2 hvs rfl (hall 2 (by decide))
        obtain ⟨e1306, hlB929, kb_B929, lt_B793_B929, hk_B929⟩ := c_3 (hall 3 (by decide))
        have ev1307 := Vals.at 3 hvs rfl (hall 4 (by decide))
        obtain ⟨e1308, hlB934, kb_B934, lt_B793_B934, lt_B929_B934, hk_B934, hz_B934⟩ := c_5 (hall 5 (by decide))
        have ev1309 := Vals.at 4 hvs rfl (hall 6 (by decide))
        obtain ⟨e1310, hlB941, kb_B941, lt_B793_B941, hk_B941⟩ := c_7 (hall 7 (by decide))
        obtain ⟨e1311, hlB949, kb_B949⟩ := c_8 (hall 8 (by decide))
        have ev1312 := Vals.at 5 hvs rfl (hall 9 (by decide))
        have ev1313 := Vals.at 6 hvs rfl (hall 10 (by decide))
        have ev1314 := Vals.at 7 hvs rfl (hall 11 (by decide))
        have ev1315 := Vals.at 8 hvs rfl (hall 12 (by decide))
        have ev1316 := Vals.at 9 hvs rfl (hall 13 (by decide))
        have ev1317 := Vals.at 10 hvs rfl (hall 14 (by decide))
        have ev1318 := Vals.at 11 hvs rfl (hall 15 (by decide))
        have ev1319 := Vals.at 12 hvs rfl (hall 16 (by decide))
        have ne_B929_B941 := pr_B929_B941 (hall 3 (by decide)) (hall 7 (by decide))
        have ne_B934_B941 := pr_B934_B941 (hall 5 (by decide)) (hall 7 (by decide))
        refine wpo_run rfl rfl ev1305 rfl ?_
        refine wpo_neqb (q := !(decide (tableOk (tabT (ms117 ++ [mkNew 5 ⟨(m : Int) % 4, (m : Int) / 4 % 4⟩ [] k none 0])) = (decide ((mAt ms117 ((k - 1).toNat)).t.kind = 1))))) (by kernel_rfl) ev1312 ev1319 rfl rfl ?_
        refine wpo_pickf (v := .bool (!(decide (tableOk (tabT (ms117 ++ [mkNew 5 ⟨(m : Int) % 4, (m : Int) / 4 % 4⟩ [] k none 0])) = (decide ((mAt ms117 ((k - 1).toNat)).t.kind = 1)))))) ev1305 rfl rfl rfl ?_
        refine wpo_nil ?_
        refine thn_n ?_
        refine wpf_condf rfl (not_of_t hgt792) ?_
        refine wpf_skip ?_
        refine blk_n ?_
        refine thn_n ?_
        refine wpf_region ?_
        refine wpo_move (v := .int .i64 k) e1299 rfl ?_
        refine wpo_add (c := k + 1) rfl rfl (by omega) (by omega) (by omega) rfl ?_
        refine wpo_assign (v := .int .i64 (k + 1)) rfl rfl ?_
        refine wpo_nil ?_
        refine thn_n ?_
        have hTG1320 := (TabG.low hTG927 hi1296)
        exact ⟨((ms117.length : Int) + 1 - (k + 1)).toNat, by omega, (k + 1), rfl, (by omega), hTG1320, (Nat.le_trans (Nat.le_trans (Nat.le_trans (Nat.le_trans (Nat.le_trans hhs hg784.size) hg789.size) hN795.grw.size) hS798.grw.size) hi1296.size), rfl, e1297, e1298, hb1302⟩
      ·
       have h1321 := of_decide_eq_false h781
       refine wpf_exit ?_
       refine thn_e ?_
       refine thn_e ?_
       refine blk_e ?_
       refine thn_n ?_
       refine wpf_seq_region ?_
       refine wpo_assign (v := .bool true) rfl rfl ?_
       refine wpo_nil ?_
       refine wpf_ret ?_
       refine ⟨.bool true, res1 rfl rfl, ?_, hb776⟩
       rfl
   ·
    refine wpo_call (vs := [.slice (some ⟨B115, 0, none⟩) ms117.length cap116]) gf_6 (args_cons rfl args_nil) rfl (itabtx_c _ ms117 (pow_low htp hb123) _ _ (TabG.at hTG118) hTl124 (by omega)) ?_
    rintro _ w1322 ⟨rfl, hg1323⟩
    have hb1324 := low0 hb123 hg1323
    refine wpo_assign (v := .string ⟨(tabtx (tabT ms117)).toArray⟩) rfl rfl ?_
    refine wpo_nil ?_
    refine wpf_seq ?_
    refine wpf_seq_region ?_
    refine wpo_move (v := .string ⟨(tabtx (tabT ms117)).toArray⟩) rfl rfl ?_
    refine wpo_move (v := .slice (some ⟨B115, 0, none⟩) ms117.length cap116) rfl rfl ?_
    have hTG1329 := (TabG.low hTG118 hg1323)
    refine wpo_call (vs := [.slice (some ⟨B115, 0, none⟩) ms117.length cap116]) gf_7 (args_cons rfl args_nil) rfl (stabtx_c _ ms117 _ _ (TabG.at hTG1329) hTl124 (by omega)) ?_
    rintro _ w1330 ⟨rfl, hg1331⟩
    have hb1332 := low0 hb1324 hg1331
    refine wpo_sneq (q := false) rfl rfl (by simp) rfl ?_
    refine wpo_move (v := .bool false) rfl rfl ?_
    refine wpo_run rfl rfl rfl rfl ?_
    refine wpo_move (v := .string ⟨(tabtx (tabT ms117)).toArray⟩) rfl rfl ?_
    refine wpo_run rfl rfl rfl rfl ?_
    refine wpo_seql (q := decide ((tabtx (tabT ms117)) = ([] : List UInt8))) rfl rfl rfl rfl ?_
    refine wpo_pickf (v := .bool (decide ((tabtx (tabT ms117)) = ([] : List UInt8)))) rfl rfl rfl rfl ?_
    refine wpo_move (v := .bool (decide ((tabtx (tabT ms117)) = ([] : List UInt8)))) rfl rfl ?_
    iterate 3 refine wpo_pass rfl rfl rfl (decide_eq_true (tabtx_n h125).symm) rfl ?_
    refine wpo_pickt (v := .bool true) rfl (decide_eq_true (tabtx_n h125).symm) rfl rfl ?_
    refine wpo_nil ?_
    refine wpf_condt rfl rfl ?_
    refine wpf_seq_region ?_
    refine wpo_move (v := .string ⟨(tabtx (tabT ms117)).toArray⟩) rfl rfl ?_
    refine wpo_move (v := .slice (some ⟨B115, 0, none⟩) ms117.length cap116) rfl rfl ?_
    have hTG1333 := (TabG.low hTG1329 hg1331)
    refine wpo_call (vs := [.slice (some ⟨B115, 0, none⟩) ms117.length cap116]) gf_7 (args_cons rfl args_nil) rfl (stabtx_c _ ms117 _ _ (TabG.at hTG1333) hTl124 (by omega)) ?_
    rintro _ w1334 ⟨rfl, hg1335⟩
    have hb1336 := low0 hb1332 hg1335
    refine wpo_seql (q := true) rfl rfl (by simp) rfl ?_
    refine wpo_assign (v := .bool true) rfl rfl ?_
    refine wpo_nil ?_
    refine wpf_ret ?_
    refine thn_r ?_
    refine ⟨.bool true, res1 rfl rfl, ?_, hb1336⟩
    rfl

theorem law_FnNewApart (bs : List Int) (a : Option Addr) (c : Nat) (w : World) (hs0 : SlAt w a 1 (bs.map bcell)) (hb : ∀ b ∈ bs, 0 ≤ b ∧ b ≤ 255) (hn : bs.length ≤ 9223372036854775807) (hc : bs.length ≤ c) (m : Nat) (a2 : Option Addr) (c2 : Nat) (hm2 : m ≤ 9223372036854775807) (htp : Pow10 w) : CallsR Tryd.prog 4 #[.slice a bs.length c, .slice a2 m c2] w (fun v w' => v = .bool true ∧ w.grownBy w' none) := by
 refine calls_of_wpf (n := 88) Tryd.func4 rfl Tryd.ntmps4 rfl ?_
 have hb0 := World.grownBy.refl w none
 have hs := SlAt.lt wide_b (by omega) hs0
 refine wpf_seq_region ?_
 refine wpo_assign (v := .bool false) rfl rfl ?_
 refine wpo_nil ?_
 refine wpf_seq ?_
 refine wpf_seq_region_mid (fun f' w' => (f' 0 = .slice a bs.length c ∧ f' 1 = .slice a2 m c2 ∧ f' 4 = .bool false ∧ f' 19 = .bool ((decide (1048576 < (bs.length : Int))) || (decide (1048576 < (m : Int))))) ∧ w = w') ?_ ?_
 ·
  refine wpo_move (v := .slice a bs.length c) rfl rfl ?_
  refine wpo_len (by kernel_rfl) rfl rfl ?_
  refine wpo_gtr (q := decide (1048576 < (bs.length : Int))) rfl rfl rfl rfl ?_
  refine wpo_move (v := .bool (decide (1048576 < (bs.length : Int)))) rfl rfl ?_
  rcases bcases (decide (1048576 < (bs.length : Int))) with h101 | h101
  ·
   have h102 := of_decide_eq_true h101
   iterate 3 refine wpo_pass rfl rfl rfl h101 rfl ?_
   refine wpo_pickt (v := .bool true) rfl h101 rfl rfl ?_
   exact wpo_nil ⟨⟨rfl, rfl, rfl, (congrArg Value.bool (by first | (simp only [h101, b0, b1, b2, b3, b4, b5, b6, b7, b8, b9]; done) | simp [h101]))⟩, rfl⟩
  ·
   have h103 := of_decide_eq_false h101
   refine wpo_run rfl rfl rfl h101 ?_
   refine wpo_move (v := .slice a2 m c2) rfl rfl ?_
   refine wpo_run rfl rfl rfl h101 ?_
   refine wpo_len (by kernel_rfl) rfl rfl ?_
   refine wpo_run rfl rfl rfl h101 ?_
   refine wpo_gtr (q := decide (1048576 < (m : Int))) rfl rfl rfl rfl ?_
   refine wpo_pickf (v := .bool (decide (1048576 < (m : Int)))) rfl h101 rfl rfl ?_
   exact wpo_nil ⟨⟨rfl, rfl, rfl, (congrArg Value.bool (by first | (simp only [h101, b0, b1, b2, b3, b4, b5, b6, b7, b8, b9]; done) | simp [h101]))⟩, rfl⟩
 ·
  rintro f104 w105 ⟨⟨e106, e107, e108, e109⟩, rfl⟩
  refine wpf_cond e109 (fun h110 => ?_) (fun h110 => ?_)
  ·
   refine wpf_seq_region ?_
   refine wpo_assign (v := .bool true) rfl rfl ?_
   refine wpo_nil ?_
   refine wpf_ret ?_
   refine thn_r ?_
   refine ⟨.bool true, res1 rfl rfl, ?_, hb0⟩
   rfl
  ·
   have h111 := or_l h110
   have h112 := of_decide_eq_false h111
   have h113 := or_r h110
   have h114 := of_decide_eq_false h113
   refine wpf_skip ?_
   refine thn_n ?_
   refine wpf_seq_region ?_
   refine wpo_move (v := .slice a bs.length c) e106 rfl ?_
   refine wpo_call (vs := [.slice a bs.length c]) gf_5 (args_cons rfl args_nil) rfl (DrawTableText_c bs a c _ (SlAt.low hs0 hb0) hb (by omega) (by omega)) ?_
   rintro _ w122 ⟨B115, cap116, ms117, rfl, hTG118, hTS119, hTn120, hg121⟩
   have hb123 := low0 hb0 hg121
   have hTl124 := hTS119.len
   refine wpo_assign (v := .slice (some ⟨B115, 0, none⟩) ms117.length cap116) rfl rfl ?_
   refine wpo_nil ?_
   refine wpf_seq_region ?_
   refine wpo_move (v := .slice (some ⟨B115, 0, none⟩) ms117.length cap116) rfl rfl ?_
   rcases bcases (tableOk (tabT ms117)) with h125 | h125
   ·
    refine wpo_call (vs := [.slice (some ⟨B115, 0, none⟩) ms117.length cap116]) gf_6 (args_cons rfl args_nil) rfl (itabtx_c _ ms117 (pow_low htp hb123) _ _ (TabG.at hTG118) hTl124 (by omega)) ?_
    rintro _ w126 ⟨rfl, hg127⟩
    have hb128 := low0 hb123 hg127
    refine wpo_assign (v := .string ⟨(tabtx (tabT ms117)).toArray⟩) rfl rfl ?_
    refine wpo_nil ?_
    refine wpf_seq ?_
    refine wpf_seq_region ?_
    refine wpo_move (v := .string ⟨(tabtx (tabT ms117)).toArray⟩) rfl rfl ?_
    refine wpo_move (v := .slice (some ⟨B115, 0, none⟩) ms117.length cap116) rfl rfl ?_
    have hTG133 := (TabG.low hTG118 hg127)
    refine wpo_call (vs := [.slice (some ⟨B115, 0, none⟩) ms117.length cap116]) gf_7 (args_cons rfl args_nil) rfl (stabtx_c _ ms117 _ _ (TabG.at hTG133) hTl124 (by omega)) ?_
    rintro _ w134 ⟨rfl, hg135⟩
    have hb136 := low0 hb128 hg135
    refine wpo_sneq (q := false) rfl rfl (by simp) rfl ?_
    refine wpo_move (v := .bool false) rfl rfl ?_
    refine wpo_run rfl rfl rfl rfl ?_
    refine wpo_move (v := .string ⟨(tabtx (tabT ms117)).toArray⟩) rfl rfl ?_
    refine wpo_run rfl rfl rfl rfl ?_
    refine wpo_seql (q := decide ((tabtx (tabT ms117)) = ([] : List UInt8))) rfl rfl rfl rfl ?_
    refine wpo_pickf (v := .bool (decide ((tabtx (tabT ms117)) = ([] : List UInt8)))) rfl rfl rfl rfl ?_
    refine wpo_move (v := .bool (decide ((tabtx (tabT ms117)) = ([] : List UInt8)))) rfl rfl ?_
    refine wpo_run rfl rfl rfl (decide_eq_false (tabtx_ne h125)) ?_
    refine wpo_move (v := .slice (some ⟨B115, 0, none⟩) ms117.length cap116) rfl rfl ?_
    refine wpo_run rfl rfl rfl (decide_eq_false (tabtx_ne h125)) ?_
    refine wpo_len (by kernel_rfl) rfl rfl ?_
    refine wpo_run rfl rfl rfl (decide_eq_false (tabtx_ne h125)) ?_
    refine wpo_eql (q := decide ((ms117.length : Int) = 8)) rfl rfl rfl rfl ?_
    refine wpo_pickf (v := .bool (decide ((ms117.length : Int) = 8))) rfl (decide_eq_false (tabtx_ne h125)) rfl rfl ?_
    refine wpo_nil ?_
    refine wpf_cond rfl (fun h137 => ?_) (fun h137 => ?_)
    ·
     have h138 := of_decide_eq_true h137
     refine wpf_seq_region ?_
     refine wpo_move (v := .string ⟨(tabtx (tabT ms117)).toArray⟩) rfl rfl ?_
     refine wpo_move (v := .slice (some ⟨B115, 0, none⟩) ms117.length cap116) rfl rfl ?_
     have hTG139 := (TabG.low hTG133 hg135)
     refine wpo_call (vs := [.slice (some ⟨B115, 0, none⟩) ms117.length cap116]) gf_7 (args_cons rfl args_nil) rfl (stabtx_c _ ms117 _ _ (TabG.at hTG139) hTl124 (by omega)) ?_
     rintro _ w140 ⟨rfl, hg141⟩
     have hb142 := low0 hb136 hg141
     refine wpo_seql (q := true) rfl rfl (by simp) rfl ?_
     refine wpo_assign (v := .bool true) rfl rfl ?_
     refine wpo_nil ?_
     refine wpf_ret ?_
     refine thn_r ?_
     refine ⟨.bool true, res1 rfl rfl, ?_, hb142⟩
     rfl
    ·
     have h143 := of_decide_eq_false h137
     refine wpf_skip ?_
     refine thn_n ?_
     refine wpf_seq_region ?_
     refine wpo_move (v := .slice a2 m c2) e107 rfl ?_
     refine wpo_len (by kernel_rfl) rfl rfl ?_
     refine wpo_call (vs := [.int .i64 (m : Int)]) gf_9 (args_cons rfl args_nil) rfl (ldLabel_c (m : Int) (by omega) _) ?_
     rintro _ w144 ⟨rfl, hg145⟩
     have hb146 := low0 hb136 hg145
     have hTG147 := (TabG.low (TabG.low hTG133 hg135) hg145)
     obtain ⟨hi, hhi⟩ : ∃ n, n = w144.heap.size := ⟨_, rfl⟩
     have hTG148 := hTG147
     have hTH := TabG.hi hTG147
     rw [← hhi] at hTH
     have hno149 : newOk 3 ⟨(m : Int) % 4, (m : Int) / 4 % 4⟩ 0 = true := newOk_4 (by omega) lab4_ok
     have h150 : thingOk (⟨3, ⟨(m : Int) % 4, (m : Int) / 4 % 4⟩, 0, 0, zeros4, [], 0⟩ : Th) = true := (newOk_y (by decide)).symm.trans hno149
     refine wpo_call (vs := [.int .i64 3, .agg #[.int .i64 ((m : Int) % 4), .int .i64 ((m : Int) / 4 % 4)], .int .i64 0]) gf_8 (args_cons rfl (args_cons rfl (args_cons rfl args_nil))) rfl (ThingNew_yt 3 0 ⟨(m : Int) % 4, (m : Int) / 4 % 4⟩ (by decide) hno149 _) ?_
     rintro _ w151 ⟨B153, cap154, rfl, hge155, hO156, hg152⟩
     have hb157 := low0 hb146 hg152
     have hlB153 := Nat.le_trans hb146.size hge155
     refine wpo_move (v := .tuple #[.agg #[.int .i64 3, .int .i64 ((m : Int) % 4), .int .i64 ((m : Int) / 4 % 4), .int .i64 0, .int .i64 0, .slice (some ⟨B153, 0, none⟩) 4 cap154, .slice none 0 0, .int .i64 0], .bool true]) rfl rfl ?_
     refine wpo_extract (v := .agg #[.int .i64 3, .int .i64 ((m : Int) % 4), .int .i64 ((m : Int) / 4 % 4), .int .i64 0, .int .i64 0, .slice (some ⟨B153, 0, none⟩) 4 cap154, .slice none 0 0, .int .i64 0]) rfl rfl rfl ?_
     refine wpo_extract (v := .bool true) rfl rfl rfl ?_
     refine wpo_alloc (cs := #[.int .i64 0, .int .i64 0, .int .i64 0, .int .i64 0, .int .i64 0, .slice none 0 0, .slice none 0 0, .int .i64 0]) zt_31 rfl rfl ?_
     intro B158 w159 hN160
     have hlB158 := hN_ge hN160 hb157
     have hhiB158 : hi ≤ B158 := Nat.le_trans (Nat.le_trans (Nat.le_of_eq hhi) hg152.size) (Nat.le_of_eq hN160.eq.symm)
     have lt_B153_B158 := hN_gtl hN160 (hO156).lt
     have hb161 := low0 hb157 hN160.grw
     refine wpo_storen (vs := [.int .i64 3, .int .i64 ((m : Int) % 4), .int .i64 ((m : Int) / 4 % 4), .int .i64 0, .int .i64 0, .slice (some ⟨B153, 0, none⟩) 4 cap154, .slice none 0 0, .int .i64 0]) (cs' := #[.int .i64 3, .int .i64 ((m : Int) % 4), .int .i64 ((m : Int) / 4 % 4), .int .i64 0, .int .i64 0, .slice (some ⟨B153, 0, none⟩) 4 cap154, .slice none 0 0, .int .i64 0]) rt_31 rfl rfl rfl (by simp [Value.oneCell']) hN160.blk (Nat.le_of_ble_eq_true rfl) rfl ?_
     intro w162 hS163
     have hb164 := low1 hb161 hS163.grw (by omega)
     refine wpo_assign (v := .bool true) rfl rfl ?_
     refine wpo_nil ?_
     refine wpf_seq ?_
     have hz284 : hi ≤ w162.heap.size := (Nat.le_trans (Nat.le_trans (Nat.le_trans (Nat.le_of_eq hhi) hg152.size) hN160.grw.size) hS163.grw.size)
     refine wpf_drawI (m := 5) [[], [], [0, 1], [], [3], [0, 1, 2, 3, 4], [0, 1, 2, 3, 4, 5]] (fun S F w' => ∃ (B264 : Nat) (B270 : Nat) (cap271 : Nat) (B278 : Nat), w162.grownBy w' none ∧ F 4 = .bool false ∧ F 5 = .slice (some ⟨B115, 0, none⟩) ms117.length cap116 ∧ F 6 = .string ⟨(tabtx (tabT ms117)).toArray⟩ ∧ F 7 = .pointer (some ⟨B158, 0, none⟩) ∧ (S 0 = true → F 48 = .slice (some ⟨B264, 0, none⟩) 0 0 ∧ w.heap.size ≤ B264 ∧ Blk w' B264 31 (([] : List MTh).flatMap MTh.cells).toArray ∧ B153 < B264 ∧ B158 < B264 ∧ w162.heap.size ≤ B264) ∧ (S 1 = true → F 49 = .slice (some ⟨B115, 0, none⟩) ms117.length cap116) ∧ (S 2 = true → F 50 = .slice (some ⟨B270, 0, none⟩) ms117.length cap271 ∧ w.heap.size ≤ B270 ∧ Dw.Own w' B270 31 8 cap271 ms117.length (ms117.flatMap MTh.cells) ∧ B153 < B270 ∧ B158 < B270 ∧ B264 < B270 ∧ w162.heap.size ≤ B270) ∧ (S 3 = true → F 51 = .agg #[.int .i64 3, .int .i64 ((m : Int) % 4), .int .i64 ((m : Int) / 4 % 4), .int .i64 0, .int .i64 0, .slice (some ⟨B153, 0, none⟩) 4 cap154, .slice none 0 0, .int .i64 0]) ∧ (S 4 = true → F 52 = .slice (some ⟨B278, 0, none⟩) 1 1 ∧ w.heap.size ≤ B278 ∧ Blk w' B278 31 (([mkNew 3 ⟨(m : Int) % 4, (m : Int) / 4 % 4⟩ zeros4 0 (some ⟨B153, 0, none⟩) cap154] : List MTh).flatMap MTh.cells).toArray ∧ B153 < B278 ∧ B158 < B278 ∧ w162.heap.size ≤ B278)) mixed_ (by kernel_rfl) ⟨0, 0, 0, 0, grown_drew _, e108, rfl, rfl, rfl, not_begun, not_begun, not_begun, not_begun, not_begun⟩ ?_ ?_
     ·
      refine preL_cons (fun S F w285 hS hbef hcl hI => ?_) ?_
      ·
       obtain ⟨B264, B270, cap271, B278, hi286, e287, e288, e289, e290, c_0, c_1, c_2, c_3, c_4⟩ := hI
       have hb291 := low0 hb164 hi286
       refine wpo_buildSlice (ps := []) (e := 31) (cs := (([] : List MTh).flatMap MTh.cells).toArray) parts_nil (fun _ => by kernel_rfl) rfl ?_
       intro B292 w293 hN294
       have hlB292 := hN_ge hN294 hb291
       have hhiB292 : hi ≤ B292 := Nat.le_trans (Nat.le_trans (Nat.le_trans (Nat.le_trans (Nat.le_trans (Nat.le_of_eq hhi) hg152.size) hN160.grw.size) hS163.grw.size) hi286.size) (Nat.le_of_eq hN294.eq.symm)
       have k295 := (((hO156.grown0 hN160.grw).gn hS163.grw).grown0 hi286)
       have lt_B153_B292 := hN_gtl hN294 (k295).lt
       have k296 := (hS163.blk.grown0 hi286)
       have lt_B158_B292 := hN_gtl hN294 (k296).lt
       have hb297 := low0 hb291 hN294.grw
       exact wpo_nil ⟨B292, B270, cap271, B278, (low0 hi286 hN294.grw), e287, e288, e289, e290, fun _ => ⟨rfl, hlB292, hN294.blk, lt_B153_B292, lt_B158_B292, (Nat.le_trans hi286.size (Nat.le_of_eq hN294.eq.symm))⟩, c_1, fun h => undone 2 hS hcl rfl h, c_3, fun h => let ⟨y298, y299, y300, y301, y302, y303⟩ := c_4 h; ⟨y298, y299, (y300).grown0 hN294.grw, y301, y302, y303⟩⟩
      refine preL_cons (fun S F w304 hS hbef hcl hI => ?_) ?_
      ·
       obtain ⟨B264, B270, cap271, B278, hi305, e306, e307, e308, e309, c_0, c_1, c_2, c_3, c_4⟩ := hI
       have hb310 := low0 hb164 hi305
       refine wpo_move (v := .slice (some ⟨B115, 0, none⟩) ms117.length cap116) e307 rfl ?_
       exact wpo_nil ⟨B264, B270, cap271, B278, hi305, e306, e307, e308, e309, c_0, fun _ => rfl, fun h => undone 2 hS hcl rfl h, c_3, c_4⟩
      refine preL_cons (fun S F w311 hS hbef hcl hI => ?_) ?_
      ·
       obtain ⟨B264, B270, cap271, B278, hi312, e313, e314, e315, e316, c_0, c_1, c_2, c_3, c_4⟩ := hI
       have hb317 := low0 hb164 hi312
       obtain ⟨e318, hlB264, kb_B264, lt_B153_B264, lt_B158_B264, hk_B264⟩ := c_0 (ready_of 0 hbef rfl)
       obtain e319 := c_1 (ready_of 1 hbef rfl)
       have hTG320 := (TabG.low (TabG.ge (TabG.low (TabG.low hTG148 hg152) hN160.grw) hS163.grw hTH (by omega)) hi312)
       refine wpo_append0 (g := MTh.cells) (zs := ms117) mk_23 rfl wide_mth (by omega) e318 e319 (TabG.at hTG320).1 (by omega) (by omega) (by omega) rfl ?_
       intro B321 cap322 w323 hN324
       have hlB321 := nO_ge hN324 hb317
       have hhiB321 : hi ≤ B321 := Nat.le_trans (Nat.le_trans (Nat.le_trans (Nat.le_trans (Nat.le_trans (Nat.le_of_eq hhi) hg152.size) hN160.grw.size) hS163.grw.size) hi312.size) (Nat.le_of_eq hN324.eq.symm)
       have k325 := (((hO156.grown0 hN160.grw).gn hS163.grw).grown0 hi312)
       have lt_B153_B321 := nO_gtl hN324 (k325).lt
       have k326 := (hS163.blk.grown0 hi312)
       have lt_B158_B321 := nO_gtl hN324 (k326).lt
       have lt_B264_B321 := nO_gtl hN324 (kb_B264).lt
       have hb327 := low0 hb317 hN324.grw
       exact wpo_nil ⟨B264, B321, cap322, B278, (low0 hi312 hN324.grw), e313, e314, e315, e316, fun h => let ⟨y328, y329, y330, y331, y332, y333⟩ := c_0 h; ⟨y328, y329, (y330).grown0 hN324.grw, y331, y332, y333⟩, c_1, fun _ => ⟨rfl, hlB321, hN324.own, lt_B153_B321, lt_B158_B321, lt_B264_B321, (Nat.le_trans hi312.size (Nat.le_of_eq hN324.eq.symm))⟩, c_3, fun h => let ⟨y334, y335, y336, y337, y338, y339⟩ := c_4 h; ⟨y334, y335, (y336).grown0 hN324.grw, y337, y338, y339⟩⟩
      refine preL_cons (fun S F w340 hS hbef hcl hI => ?_) ?_
      ·
       obtain ⟨B264, B270, cap271, B278, hi341, e342, e343, e344, e345, c_0, c_1, c_2, c_3, c_4⟩ := hI
       have hb346 := low0 hb164 hi341
       have k347 := (hS163.blk.grown0 hi341)
       refine wpo_loadn (vs := [.int .i64 3, .int .i64 ((m : Int) % 4), .int .i64 ((m : Int) / 4 % 4), .int .i64 0, .int .i64 0, .slice (some ⟨B153, 0, none⟩) 4 cap154, .slice none 0 0, .int .i64 0]) rt_31 e345 rfl (k347.rangeL 0 8 rfl) rfl ?_
       exact wpo_nil ⟨B264, B270, cap271, B278, hi341, e342, e343, e344, e345, c_0, c_1, c_2, fun _ => rfl, fun h => undone 4 hS hcl rfl h⟩
      refine preL_cons (fun S F w348 hS hbef hcl hI => ?_) ?_
      ·
       obtain ⟨B264, B270, cap271, B278, hi349, e350, e351, e352, e353, c_0, c_1, c_2, c_3, c_4⟩ := hI
       have hb354 := low0 hb164 hi349
       obtain e355 := c_3 (ready_of 3 hbef rfl)
       refine wpo_buildSlice (ps := [(0, .agg #[.int .i64 3, .int .i64 ((m : Int) % 4), .int .i64 ((m : Int) / 4 % 4), .int .i64 0, .int .i64 0, .slice (some ⟨B153, 0, none⟩) 4 cap154, .slice none 0 0, .int .i64 0])]) (e := 31) (cs := (([mkNew 3 ⟨(m : Int) % 4, (m : Int) / 4 % 4⟩ zeros4 0 (some ⟨B153, 0, none⟩) cap154] : List MTh).flatMap MTh.cells).toArray) (parts_cons e355 parts_nil) (fun _ => by kernel_rfl) rfl ?_
       intro B356 w357 hN358
       have hlB356 := hN_ge hN358 hb354
       have hhiB356 : hi ≤ B356 := Nat.le_trans (Nat.le_trans (Nat.le_trans (Nat.le_trans (Nat.le_trans (Nat.le_of_eq hhi) hg152.size) hN160.grw.size) hS163.grw.size) hi349.size) (Nat.le_of_eq hN358.eq.symm)
       have k359 := (((hO156.grown0 hN160.grw).gn hS163.grw).grown0 hi349)
       have lt_B153_B356 := hN_gtl hN358 (k359).lt
       have k360 := (hS163.blk.grown0 hi349)
       have lt_B158_B356 := hN_gtl hN358 (k360).lt
       have hb361 := low0 hb354 hN358.grw
       exact wpo_nil ⟨B264, B270, cap271, B356, (low0 hi349 hN358.grw), e350, e351, e352, e353, fun h => let ⟨y362, y363, y364, y365, y366, y367⟩ := c_0 h; ⟨y362, y363, (y364).grown0 hN358.grw, y365, y366, y367⟩, c_1, fun h => let ⟨y368, y369, y370, y371, y372, y373, y374⟩ := c_2 h; ⟨y368, y369, (y370).grown0 hN358.grw, y371, y372, y373, y374⟩, c_3, fun _ => ⟨rfl, hlB356, hN358.blk, lt_B153_B356, lt_B158_B356, (Nat.le_trans hi349.size (Nat.le_of_eq hN358.eq.symm))⟩⟩
      exact preL_nil
     ·
      intro S F w375 hall hI
      obtain ⟨B264, B270, cap271, B278, hi376, e377, e378, e379, e380, c_0, c_1, c_2, c_3, c_4⟩ := hI
      have hb381 := low0 hb164 hi376
      obtain ⟨e382, hlB264, kb_B264, lt_B153_B264, lt_B158_B264, hk_B264⟩ := c_0 (hall 0 (by decide))
      obtain e383 := c_1 (hall 1 (by decide))
      obtain ⟨e384, hlB270, kb_B270, lt_B153_B270, lt_B158_B270, lt_B264_B270, hk_B270⟩ := c_2 (hall 2 (by decide))
      obtain e385 := c_3 (hall 3 (by decide))
      obtain ⟨e386, hlB278, kb_B278, lt_B153_B278, lt_B158_B278, hk_B278⟩ := c_4 (hall 4 (by decide))
      have k387 := (((hO156.grown0 hN160.grw).gn hS163.grw).grown0 hi376)
      have k388 := (hS163.blk.grown0 hi376)
      refine wpo_append (g := MTh.cells) (ys := ms117) (zs := [mkNew 3 ⟨(m : Int) % 4, (m : Int) / 4 % 4⟩ zeros4 0 (some ⟨B153, 0, none⟩) cap154]) mk_23 rfl wide_mth (by omega) onec_mth e384 e386 kb_B270 (rows_sl wide_mth kb_B278) (by simp only [List.length_cons, List.length_nil]; omega) (by omega) rfl ?_
      intro B389 cap390 w391 hO392 hg393 hor394
      have hlB389 : w.heap.size ≤ B389 := by rcases hor394 with h | h; (rw [h]; omega); (rw [h]; exact hb381.size)
      have hhiB389 : hi ≤ B389 := by rcases hor394 with h | h; (rw [h]; omega); (rw [h]; exact (Nat.le_trans (Nat.le_trans (Nat.le_trans (Nat.le_trans (Nat.le_of_eq hhi) hg152.size) hN160.grw.size) hS163.grw.size) hi376.size))
      have hb395 := low1 hb381 hg393 (by omega)
      have hxl396 := snoc_len (ms := ms117) (X := mkNew 3 ⟨(m : Int) % 4, (m : Int) / 4 % 4⟩ zeros4 0 (some ⟨B153, 0, none⟩) cap154)
      have htx397 : tableOk (tabT (ms117 ++ [mkNew 3 ⟨(m : Int) % 4, (m : Int) / 4 % 4⟩ zeros4 0 (some ⟨B153, 0, none⟩) cap154])) = true := newX_ok h125 (by omega) (mkNew_y (by decide)) (by omega) lab4_ok
      refine wpo_assign (v := .slice (some ⟨B389, 0, none⟩) ((ms117 ++ [mkNew 3 ⟨(m : Int) % 4, (m : Int) / 4 % 4⟩ zeros4 0 (some ⟨B153, 0, none⟩) cap154]).length) cap390) rfl rfl ?_
      refine wpo_nil ?_
      refine thn_n ?_
      refine wpf_seq_region ?_
      refine wpo_move (v := .slice (some ⟨B389, 0, none⟩) ((ms117 ++ [mkNew 3 ⟨(m : Int) % 4, (m : Int) / 4 % 4⟩ zeros4 0 (some ⟨B153, 0, none⟩) cap154]).length) cap390) rfl rfl ?_
      have hTG398 := (TabG.ge (TabG.low (TabG.ge (TabG.low (TabG.low hTG148 hg152) hN160.grw) hS163.grw hTH (by omega)) hi376) hg393 hTH (by omega))
      have k399 := (k387.gn hg393)
      refine wpo_call (vs := [.slice (some ⟨B389, 0, none⟩) ((ms117 ++ [mkNew 3 ⟨(m : Int) % 4, (m : Int) / 4 % 4⟩ zeros4 0 (some ⟨B153, 0, none⟩) cap154]).length) cap390]) gf_6 (args_cons rfl args_nil) rfl (itabtx_c _ (ms117 ++ [mkNew 3 ⟨(m : Int) % 4, (m : Int) / 4 % 4⟩ zeros4 0 (some ⟨B153, 0, none⟩) cap154]) (pow_low htp hb395) _ _ (tabAt_snoc hO392 (TabG.at hTG398) (thNew_y k399)) (tabLen_snoc hTl124 mkNew_len_y) (by simp only [List.length_append, List.length_cons, List.length_nil]; omega)) ?_
      rintro _ w400 ⟨rfl, hg401⟩
      have hb402 := low0 hb395 hg401
      have hux403 : tabtx (tabT (ms117 ++ [mkNew 3 ⟨(m : Int) % 4, (m : Int) / 4 % 4⟩ zeros4 0 (some ⟨B153, 0, none⟩) cap154])) = cat2 (tabtx (tabT ms117)) (lineX ms117 (mkNew 3 ⟨(m : Int) % 4, (m : Int) / 4 % 4⟩ zeros4 0 (some ⟨B153, 0, none⟩) cap154)) := newX_text h125 htx397
      have hub404 : (cat2 (tabtx (tabT ms117)) (lineX ms117 (mkNew 3 ⟨(m : Int) % 4, (m : Int) / 4 % 4⟩ zeros4 0 (some ⟨B153, 0, none⟩) cap154))).length ≤ 752 := by rw [← hux403]; exact (tabtx_len (ms := (ms117 ++ [mkNew 3 ⟨(m : Int) % 4, (m : Int) / 4 % 4⟩ zeros4 0 (some ⟨B153, 0, none⟩) cap154])))
      refine wpo_assign (v := .string ⟨(cat2 (tabtx (tabT ms117)) (lineX ms117 (mkNew 3 ⟨(m : Int) % 4, (m : Int) / 4 % 4⟩ zeros4 0 (some ⟨B153, 0, none⟩) cap154))).toArray⟩) (congrArg (fun z : List UInt8 => Value.string ⟨z.toArray⟩) hux403) rfl ?_
      refine wpo_nil ?_
      refine wpf_seq ?_
      refine wpf_seq_region ?_
      refine wpo_assign (v := .int .i64 0) rfl rfl ?_
      refine wpo_nil ?_
      refine wpf_block ?_
      have k405 := (k399.grown0 hg401)
      have hTG406 := (TabG.low hTG398 hg401)
      have k407 := (hO392.grown0 hg401)
      refine wpf_loopN (fun mm f' w' => ∃ (k : Nat), mm = 4 - k ∧ k ≤ 4 ∧ Dw.Own w' B153 39 5 cap154 4 (zeros4.flatMap Rt.cells) ∧ TabG w.heap.size w' (some ⟨B115, 0, none⟩) ms117 ∧ hi ≤ w'.heap.size ∧ f' 11 = .int .i64 (k : Int) ∧ f' 5 = .slice (some ⟨B115, 0, none⟩) ms117.length cap116 ∧ f' 6 = .string ⟨(tabtx (tabT ms117)).toArray⟩ ∧ f' 9 = .slice (some ⟨B389, 0, none⟩) ((ms117 ++ [mkNew 3 ⟨(m : Int) % 4, (m : Int) / 4 % 4⟩ zeros4 0 (some ⟨B153, 0, none⟩) cap154]).length) cap390 ∧ f' 10 = .string ⟨(cat2 (tabtx (tabT ms117)) (lineX ms117 (mkNew 3 ⟨(m : Int) % 4, (m : Int) / 4 % 4⟩ zeros4 0 (some ⟨B153, 0, none⟩) cap154))).toArray⟩ ∧ w.grownBy w' none ∧ Dw.Own w' B389 31 8 cap390 (ms117 ++ [mkNew 3 ⟨(m : Int) % 4, (m : Int) / 4 % 4⟩ zeros4 0 (some ⟨B153, 0, none⟩) cap154]).length ((ms117 ++ [mkNew 3 ⟨(m : Int) % 4, (m : Int) / 4 % 4⟩ zeros4 0 (some ⟨B153, 0, none⟩) cap154]).flatMap MTh.cells)) (4 - 0) ⟨0, rfl, (by omega), k405, hTG406, (Nat.le_trans (Nat.le_trans (Nat.le_trans (Nat.le_trans (Nat.le_trans (Nat.le_trans (Nat.le_of_eq hhi) hg152.size) hN160.grw.size) hS163.grw.size) hi376.size) hg393.size) hg401.size), rfl, e378, e379, rfl, rfl, hb402, k407⟩ ?_
      rintro mm f408 w409 ⟨k, hm411, hk, hSn, hGl, hhs, e412, e413, e414, e415, e416, hb410, k417⟩
      refine wpf_seq ?_
      refine wpf_seq_region ?_
      refine wpo_move (v := .int .i64 (k : Int)) e412 rfl ?_
      refine wpo_lss (q := decide ((k : Int) < 4)) rfl rfl rfl rfl ?_
      refine wpo_nil ?_
      refine wpf_cond rfl (fun h418 => ?_) (fun h418 => ?_)
      ·
       have h419 := of_decide_eq_true h418
       refine wpf_skip ?_
       refine thn_n ?_
       refine wpf_seq ?_
       refine wpf_block ?_
       refine wpf_seq_region ?_
       refine wpo_move (v := .slice (some ⟨B389, 0, none⟩) ((ms117 ++ [mkNew 3 ⟨(m : Int) % 4, (m : Int) / 4 % 4⟩ zeros4 0 (some ⟨B153, 0, none⟩) cap154]).length) cap390) e415 rfl ?_
       refine wpo_move (v := .slice (some ⟨B389, 0, none⟩) ((ms117 ++ [mkNew 3 ⟨(m : Int) % 4, (m : Int) / 4 % 4⟩ zeros4 0 (some ⟨B153, 0, none⟩) cap154]).length) cap390) e415 rfl ?_
       refine wpo_move (v := .slice (some ⟨B115, 0, none⟩) ms117.length cap116) e413 rfl ?_
       refine wpo_len (by kernel_rfl) rfl rfl ?_
       refine wpo_indexAddr (o' := ((ms117.length : Int)).toNat * 8) es_23 rfl rfl (by omega) (by omega) (by omega) rfl ?_
       refine wpo_fieldAddr (o' := ((ms117.length : Int)).toNat * 8 + 5) fo_31_4 rfl rfl rfl ?_
       refine wpo_load1 (v := .slice (some ⟨B153, 0, none⟩) 4 cap154) ot_28 rfl ((Own.range wide_mth k417 (snoc_last (m := ((ms117.length : Int)).toNat) (by omega))) 5 _ rfl) rfl ?_
       refine wpo_move (v := .int .i64 (k : Int)) e412 rfl ?_
       refine wpo_indexAddr (o' := k * 5) es_28 rfl rfl (by omega) (by omega) (by omega) rfl ?_
       refine wpo_loadn (vs := [.int .i64 0, .int .i64 0, .bool false, .bool false, .bool false]) rt_39 rfl rfl (range_sub (Own.range wide_rt hSn (zeros4_get (show k < 4 by omega))) 0 5 rfl) rfl ?_
       refine wpo_call (vs := [.slice (some ⟨B389, 0, none⟩) ((ms117 ++ [mkNew 3 ⟨(m : Int) % 4, (m : Int) / 4 % 4⟩ zeros4 0 (some ⟨B153, 0, none⟩) cap154]).length) cap390, .agg #[.int .i64 0, .int .i64 0, .bool false, .bool false, .bool false]]) gf_11 (args_cons rfl (args_cons rfl args_nil)) rfl (TableLive_c ⟨0, 0, false, false, false⟩ _ (ms117 ++ [mkNew 3 ⟨(m : Int) % 4, (m : Int) / 4 % 4⟩ zeros4 0 (some ⟨B153, 0, none⟩) cap154]) _ _ (tabAt_snoc k417 (TabG.at hGl) (thNew_y hSn)) (tabLen_snoc hTl124 mkNew_len_y) (by simp only [List.length_append, List.length_cons, List.length_nil]; omega)) ?_
       rintro _ w420 ⟨rfl, hg421⟩
       have hb422 := low0 hb410 hg421
       refine wpo_nil ?_
       refine wpf_condf (congrArg Value.bool tabLive_0) rfl ?_
       refine wpf_skip ?_
       refine blk_n ?_
       refine thn_n ?_
       refine wpf_region ?_
       refine wpo_move (v := .int .i64 (k : Int)) e412 rfl ?_
       refine wpo_add (c := (k : Int) + 1) rfl rfl (by omega) (by omega) (by omega) rfl ?_
       refine wpo_assign (v := .int .i64 ((k : Int) + 1)) rfl rfl ?_
       refine wpo_nil ?_
       refine thn_n ?_
       have hTG423 := (TabG.low hGl hg421)
       have k424 := (hSn.grown0 hg421)
       have k425 := (k417.grown0 hg421)
       exact ⟨4 - (k + 1), by omega, (k + 1), rfl, (by omega), k424, hTG423, (Nat.le_trans hhs hg421.size), rfl, e413, e414, e415, e416, hb422, k425⟩
      ·
       have h426 := of_decide_eq_false h418
       refine wpf_exit ?_
       refine thn_e ?_
       refine thn_e ?_
       refine blk_e ?_
       refine thn_n ?_
       refine wpf_seq_region ?_
       refine wpo_move (v := .slice (some ⟨B389, 0, none⟩) ((ms117 ++ [mkNew 3 ⟨(m : Int) % 4, (m : Int) / 4 % 4⟩ zeros4 0 (some ⟨B153, 0, none⟩) cap154]).length) cap390) e415 rfl ?_
       refine wpo_call (vs := [.slice (some ⟨B389, 0, none⟩) ((ms117 ++ [mkNew 3 ⟨(m : Int) % 4, (m : Int) / 4 % 4⟩ zeros4 0 (some ⟨B153, 0, none⟩) cap154]).length) cap390]) gf_10 (args_cons rfl args_nil) rfl (TableOk_c  _ (ms117 ++ [mkNew 3 ⟨(m : Int) % 4, (m : Int) / 4 % 4⟩ zeros4 0 (some ⟨B153, 0, none⟩) cap154]) _ _ (tabAt_snoc k417 (TabG.at hGl) (thNew_y hSn)) (tabLen_snoc hTl124 mkNew_len_y) (by simp only [List.length_append, List.length_cons, List.length_nil]; omega)) ?_
       rintro _ w430 ⟨rfl, hg431⟩
       have hb432 := low0 hb410 hg431
       refine wpo_move (v := .bool (tableOk (tabT (ms117 ++ [mkNew 3 ⟨(m : Int) % 4, (m : Int) / 4 % 4⟩ zeros4 0 (some ⟨B153, 0, none⟩) cap154])))) rfl rfl ?_
       refine wpo_run rfl rfl rfl htx397 ?_
       refine wpo_move (v := .string ⟨(cat2 (tabtx (tabT ms117)) (lineX ms117 (mkNew 3 ⟨(m : Int) % 4, (m : Int) / 4 % 4⟩ zeros4 0 (some ⟨B153, 0, none⟩) cap154))).toArray⟩) e416 rfl ?_
       refine wpo_run rfl rfl rfl htx397 ?_
       refine wpo_lens (by kernel_rfl) rfl rfl ?_
       refine wpo_run rfl rfl rfl htx397 ?_
       refine wpo_move (v := .string ⟨(tabtx (tabT ms117)).toArray⟩) e414 rfl ?_
       refine wpo_run rfl rfl rfl htx397 ?_
       refine wpo_lens (by kernel_rfl) rfl rfl ?_
       refine wpo_run rfl rfl rfl htx397 ?_
       refine wpo_gtr (q := decide (((tabtx (tabT ms117)).length : Int) < ((cat2 (tabtx (tabT ms117)) (lineX ms117 (mkNew 3 ⟨(m : Int) % 4, (m : Int) / 4 % 4⟩ zeros4 0 (some ⟨B153, 0, none⟩) cap154))).length : Int))) rfl rfl rfl rfl ?_
       refine wpo_pickt (v := .bool (decide (((tabtx (tabT ms117)).length : Int) < ((cat2 (tabtx (tabT ms117)) (lineX ms117 (mkNew 3 ⟨(m : Int) % 4, (m : Int) / 4 % 4⟩ zeros4 0 (some ⟨B153, 0, none⟩) cap154))).length : Int)))) rfl htx397 rfl rfl ?_
       refine wpo_move (v := .bool (decide (((tabtx (tabT ms117)).length : Int) < ((cat2 (tabtx (tabT ms117)) (lineX ms117 (mkNew 3 ⟨(m : Int) % 4, (m : Int) / 4 % 4⟩ zeros4 0 (some ⟨B153, 0, none⟩) cap154))).length : Int)))) rfl rfl ?_
       refine wpo_run rfl rfl rfl line_long ?_
       refine wpo_move (v := .string ⟨(cat2 (tabtx (tabT ms117)) (lineX ms117 (mkNew 3 ⟨(m : Int) % 4, (m : Int) / 4 % 4⟩ zeros4 0 (some ⟨B153, 0, none⟩) cap154))).toArray⟩) e416 rfl ?_
       refine wpo_run rfl rfl rfl line_long ?_
       refine wpo_move (v := .string ⟨(tabtx (tabT ms117)).toArray⟩) e414 rfl ?_
       refine wpo_run rfl rfl rfl line_long ?_
       refine wpo_lens (by kernel_rfl) rfl rfl ?_
       refine wpo_run rfl rfl rfl line_long ?_
       refine wpo_front (by kernel_rfl) rfl rfl rfl ?_
       refine wpo_run rfl rfl rfl line_long ?_
       refine wpo_move (v := .string ⟨(tabtx (tabT ms117)).toArray⟩) e414 rfl ?_
       refine wpo_run rfl rfl rfl line_long ?_
       refine wpo_seql (q := true) rfl rfl (by simp) rfl ?_
       refine wpo_pickt (v := .bool true) rfl line_long rfl rfl ?_
       refine wpo_assign (v := .bool true) rfl rfl ?_
       refine wpo_nil ?_
       refine wpf_ret ?_
       refine ⟨.bool true, res1 rfl rfl, ?_, hb432⟩
       rfl
   ·
    refine wpo_call (vs := [.slice (some ⟨B115, 0, none⟩) ms117.length cap116]) gf_6 (args_cons rfl args_nil) rfl (itabtx_c _ ms117 (pow_low htp hb123) _ _ (TabG.at hTG118) hTl124 (by omega)) ?_
    rintro _ w433 ⟨rfl, hg434⟩
    have hb435 := low0 hb123 hg434
    refine wpo_assign (v := .string ⟨(tabtx (tabT ms117)).toArray⟩) rfl rfl ?_
    refine wpo_nil ?_
    refine wpf_seq ?_
    refine wpf_seq_region ?_
    refine wpo_move (v := .string ⟨(tabtx (tabT ms117)).toArray⟩) rfl rfl ?_
    refine wpo_move (v := .slice (some ⟨B115, 0, none⟩) ms117.length cap116) rfl rfl ?_
    have hTG440 := (TabG.low hTG118 hg434)
    refine wpo_call (vs := [.slice (some ⟨B115, 0, none⟩) ms117.length cap116]) gf_7 (args_cons rfl args_nil) rfl (stabtx_c _ ms117 _ _ (TabG.at hTG440) hTl124 (by omega)) ?_
    rintro _ w441 ⟨rfl, hg442⟩
    have hb443 := low0 hb435 hg442
    refine wpo_sneq (q := false) rfl rfl (by simp) rfl ?_
    refine wpo_move (v := .bool false) rfl rfl ?_
    refine wpo_run rfl rfl rfl rfl ?_
    refine wpo_move (v := .string ⟨(tabtx (tabT ms117)).toArray⟩) rfl rfl ?_
    refine wpo_run rfl rfl rfl rfl ?_
    refine wpo_seql (q := decide ((tabtx (tabT ms117)) = ([] : List UInt8))) rfl rfl rfl rfl ?_
    refine wpo_pickf (v := .bool (decide ((tabtx (tabT ms117)) = ([] : List UInt8)))) rfl rfl rfl rfl ?_
    refine wpo_move (v := .bool (decide ((tabtx (tabT ms117)) = ([] : List UInt8)))) rfl rfl ?_
    iterate 3 refine wpo_pass rfl rfl rfl (decide_eq_true (tabtx_n h125).symm) rfl ?_
    refine wpo_pickt (v := .bool true) rfl (decide_eq_true (tabtx_n h125).symm) rfl rfl ?_
    refine wpo_nil ?_
    refine wpf_condt rfl rfl ?_
    refine wpf_seq_region ?_
    refine wpo_move (v := .string ⟨(tabtx (tabT ms117)).toArray⟩) rfl rfl ?_
    refine wpo_move (v := .slice (some ⟨B115, 0, none⟩) ms117.length cap116) rfl rfl ?_
    have hTG444 := (TabG.low hTG440 hg442)
    refine wpo_call (vs := [.slice (some ⟨B115, 0, none⟩) ms117.length cap116]) gf_7 (args_cons rfl args_nil) rfl (stabtx_c _ ms117 _ _ (TabG.at hTG444) hTl124 (by omega)) ?_
    rintro _ w445 ⟨rfl, hg446⟩
    have hb447 := low0 hb443 hg446
    refine wpo_seql (q := true) rfl rfl (by simp) rfl ?_
    refine wpo_assign (v := .bool true) rfl rfl ?_
    refine wpo_nil ?_
    refine wpf_ret ?_
    refine thn_r ?_
    refine ⟨.bool true, res1 rfl rfl, ?_, hb447⟩
    rfl

end Go.Proofs.YtemimomfjapgiaaDoor
