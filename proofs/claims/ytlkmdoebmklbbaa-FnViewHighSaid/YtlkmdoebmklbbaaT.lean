/- Walks, printed by a program of mine (gen.py) out of the functions. -/
import Derived.Test.YtlkmdoebmklbbaaC
namespace Go.Proofs.Ytlkmdoebmklbbaa
open Go.RowKit Go.Dw
set_option maxRecDepth 100000
set_option maxHeartbeats 4000000
set_option linter.unusedSimpArgs false
set_option linter.unusedVariables false
theorem fo_50_0 : fieldOff Try.prog 50 0 = some 0 := by kernel_rfl
theorem fo_50_1 : fieldOff Try.prog 50 1 = some 1 := by kernel_rfl
theorem gf_101 : goFn Try.prog 101 = true := by kernel_rfl
theorem gf_26 : goFn Try.prog 26 = true := by kernel_rfl
theorem gf_67 : goFn Try.prog 67 = true := by kernel_rfl
theorem gf_68 : goFn Try.prog 68 = true := by kernel_rfl
theorem gf_76 : goFn Try.prog 76 = true := by kernel_rfl
theorem gf_77 : goFn Try.prog 77 = true := by kernel_rfl
theorem gf_78 : goFn Try.prog 78 = true := by kernel_rfl
theorem gf_79 : goFn Try.prog 79 = true := by kernel_rfl
theorem gf_80 : goFn Try.prog 80 = true := by kernel_rfl
theorem gf_81 : goFn Try.prog 81 = true := by kernel_rfl
theorem zt_40 : zeroTy Try.prog 40 = some (.agg #[.int .i64 0, .int .i64 0]) := by kernel_rfl
theorem zt_45 : zeroTy Try.prog 45 = some (.agg #[.int .i64 0, .int .i64 0, .int .i64 0, .int .i64 0, .int .i64 0, .slice none 0 0, .slice none 0 0, .int .i64 0]) := by kernel_rfl
theorem copyR_c (w : World) (xs : List Rt) (a : Option Addr) (c : Nat) (hs : SlAt w a 5 (xs.map Rt.cells)) (hc : a = none → c = 0) (hn : xs.length ≤ 1048576) : CallsR Try.prog 101 #[.slice a xs.length c] w (fun v w' => ∃ (a' : Option Addr) (cap' : Nat), v = .slice a' xs.length cap' ∧ OwnN w.heap.size w' a' 29 5 cap' xs.length (xs.flatMap Rt.cells) ∧ w.grownBy w' none) := by
 refine calls_of_wpf (n := 5) Try.func101 rfl Try.ntmps101 rfl ?_
 have hb0 := World.grownBy.refl w none
 refine wpf_seq_region ?_
 refine wpo_assign (v := .slice none 0 0) rfl rfl ?_
 refine wpo_nil ?_
 refine wpf_seq_region ?_
 refine wpo_move (v := .slice a xs.length c) rfl rfl ?_
 refine wpo_appendN (g := Rt.cells) (ys := []) (zs := xs) (lo := w.heap.size) mk_27 rfl wide_rt (by omega) onec_rt rfl rfl OwnN.nil (SlAt.low hs hb0) hc (by first | omega | exact Nat.le_of_ble_eq_true rfl | (simp only [List.length_nil, List.length_cons, List.length_append, List.length_replicate]; omega)) (by omega) hb0.size rfl ?_
 intro a4020 cap4021 w4022 hO4023 hg4024 hor4025
 have hb4026 := low0 hb0 hg4024
 refine wpo_assign (v := .slice a4020 xs.length cap4021) rfl rfl ?_
 refine wpo_nil ?_
 refine wpf_ret ?_
 refine ⟨.slice a4020 xs.length cap4021, res1 rfl rfl, a4020, cap4021, rfl, hO4023, hb4026⟩

theorem list4_c (w : World) : CallsR Try.prog 68 #[.agg #[.int .i64 0, .int .i64 0, .bool false, .bool false, .bool false, .int .i64 0, .int .i64 0, .bool false, .bool false, .bool false, .int .i64 0, .int .i64 0, .bool false, .bool false, .bool false, .int .i64 0, .int .i64 0, .bool false, .bool false, .bool false]] w (fun v w' => ∃ (B cap : Nat), v = .slice (some ⟨B, 0, none⟩) 4 cap ∧ w.heap.size ≤ B ∧ Dw.Own w' B 29 5 cap 4 (zeros4.flatMap Rt.cells) ∧ w.grownBy w' none) := by
 refine calls_of_wpf (n := 5) Try.func68 rfl Try.ntmps68 rfl ?_
 have hb0 := World.grownBy.refl w none
 refine wpf_seq_region ?_
 refine wpo_box (v := .agg #[.int .i64 0, .int .i64 0, .bool false, .bool false, .bool false, .int .i64 0, .int .i64 0, .bool false, .bool false, .bool false, .int .i64 0, .int .i64 0, .bool false, .bool false, .bool false, .int .i64 0, .int .i64 0, .bool false, .bool false, .bool false]) (cs := #[.int .i64 0, .int .i64 0, .bool false, .bool false, .bool false, .int .i64 0, .int .i64 0, .bool false, .bool false, .bool false, .int .i64 0, .int .i64 0, .bool false, .bool false, .bool false, .int .i64 0, .int .i64 0, .bool false, .bool false, .bool false]) rfl rfl rfl ?_
 intro B4027 w4028 hN4029
 have hlB4027 := hN_ge hN4029 hb0
 have hb4030 := low0 hb0 hN4029.grw
 refine wpo_assign (v := .slice none 0 0) rfl rfl ?_
 refine wpo_nil ?_
 refine wpf_seq_region ?_
 have k4031 : Blk w4028 B4027 96 (zeros4.flatMap Rt.cells).toArray := hN4029.blk
 refine wpo_sliceArr at_96 rfl (by omega) rfl ?_
 refine wpo_call (vs := [.slice (some ⟨B4027, 0, none⟩) 4 4]) gf_101 (args_cons rfl args_nil) rfl (copyR_c _ zeros4 _ _ (rows_sl wide_rt k4031) (fun h => by cases h) (by first | omega | exact Nat.le_of_ble_eq_true rfl | (simp only [List.length_nil, List.length_cons, List.length_append, List.length_replicate]; omega))) ?_
 rintro _ w4036 ⟨a4032, cap4033, rfl, hO4034, hg4035⟩
 have hb4037 := low0 hb4030 hg4035
 have hO4038 := OwnN.mono hO4034 hb4030.size
 refine wpo_assign (v := .slice a4032 4 cap4033) rfl rfl ?_
 refine wpo_nil ?_
 refine wpf_ret ?_
 obtain ⟨B4039, h4040, h4041, h4042⟩ := OwnN.some_ hO4038 (by decide)
 refine ⟨.slice a4032 4 cap4033, res1 rfl rfl, B4039, cap4033, by rw [h4040], h4041, h4042, hb4037⟩

theorem ThingNew_yt (k to : Int) (l : Lab) (hk : ((decide (k = 2)) || (decide (k = 3))) = true) (hok : newOk k l to = true) (w : World) : CallsR Try.prog 24 #[.int .i64 k, .agg #[.int .i64 l.s, .int .i64 l.v], .int .i64 to] w (fun v w' => ∃ (S sc : Nat), v = .tuple #[.agg #[.int .i64 k, .int .i64 l.s, .int .i64 l.v, .int .i64 0, .int .i64 0, .slice (some ⟨S, 0, none⟩) 4 sc, .slice none 0 0, .int .i64 to], .bool true] ∧ w.heap.size ≤ S ∧ Dw.Own w' S 29 5 sc 4 (zeros4.flatMap Rt.cells) ∧ w.grownBy w' none) := by
 refine calls_of_wpf (n := 27) Try.func24 rfl Try.ntmps24 rfl ?_
 have hb0 := World.grownBy.refl w none
 have hlit : thingOk (⟨k, l, 0, 0, zeros4, [], to⟩ : Th) = true := (newOk_y hk).symm.trans hok
 refine wpf_seq_region ?_
 refine wpo_box (v := .agg #[.int .i64 l.s, .int .i64 l.v]) (cs := #[.int .i64 l.s, .int .i64 l.v]) rfl rfl rfl ?_
 intro B4043 w4044 hN4045
 have hlB4043 := hN_ge hN4045 hb0
 have hb4046 := low0 hb0 hN4045.grw
 refine wpo_alloc (cs := #[.int .i64 0, .int .i64 0, .int .i64 0, .int .i64 0, .int .i64 0, .slice none 0 0, .slice none 0 0, .int .i64 0]) zt_45 rfl rfl ?_
 intro B4047 w4048 hN4049
 have hlB4047 := hN_ge hN4049 hb4046
 have lt_B4043_B4047 := hN_gtl hN4049 (hN4045.blk).lt
 have hb4050 := low0 hb4046 hN4049.grw
 refine wpo_assign (v := .bool false) rfl rfl ?_
 refine wpo_nil ?_
 refine wpf_seq_region ?_
 refine wpo_move (v := .int .i64 k) rfl rfl ?_
 have k4051 := (hN4045.blk.grown0 hN4049.grw)
 refine wpo_loadn (vs := [.int .i64 l.s, .int .i64 l.v]) rt_40 rfl rfl (k4051.rangeL 0 2 rfl) rfl ?_
 refine wpo_move (v := .int .i64 to) rfl rfl ?_
 refine wpo_build (ps := [(0, .int .i64 k), (1, .agg #[.int .i64 l.s, .int .i64 l.v]), (6, .int .i64 to)]) (v := .agg #[.int .i64 k, .int .i64 l.s, .int .i64 l.v, .int .i64 0, .int .i64 0, .slice none 0 0, .slice none 0 0, .int .i64 to]) (parts_cons rfl (parts_cons rfl (parts_cons rfl parts_nil))) (by kernel_rfl) rfl ?_
 refine wpo_alloc (cs := #[.int .i64 0, .int .i64 0, .int .i64 0, .int .i64 0, .int .i64 0, .slice none 0 0, .slice none 0 0, .int .i64 0]) zt_45 rfl rfl ?_
 intro B4052 w4053 hN4054
 have hlB4052 := hN_ge hN4054 hb4050
 have lt_B4043_B4052 := hN_gtl hN4054 (k4051).lt
 have lt_B4047_B4052 := hN_gtl hN4054 (hN4049.blk).lt
 have hb4055 := low0 hb4050 hN4054.grw
 refine wpo_storen (vs := [.int .i64 k, .int .i64 l.s, .int .i64 l.v, .int .i64 0, .int .i64 0, .slice none 0 0, .slice none 0 0, .int .i64 to]) (cs' := #[.int .i64 k, .int .i64 l.s, .int .i64 l.v, .int .i64 0, .int .i64 0, .slice none 0 0, .slice none 0 0, .int .i64 to]) rt_45 rfl rfl rfl (by simp [Value.oneCell']) hN4054.blk (Nat.le_of_ble_eq_true rfl) rfl ?_
 intro w4056 hS4057
 have hb4058 := low1 hb4055 hS4057.grw (by omega)
 refine wpo_nil ?_
 refine wpf_seq ?_
 refine wpf_seq_region_mid (fun f' w' => (f' 6 = .pointer (some ⟨B4047, 0, none⟩) ∧ f' 7 = .bool false ∧ f' 8 = .pointer (some ⟨B4052, 0, none⟩) ∧ f' 18 = .bool ((decide (k = 2)) || (decide (k = 3)))) ∧ w4056 = w') ?_ ?_
 ·
  refine wpo_move (v := .int .i64 k) rfl rfl ?_
  refine wpo_eql (q := decide (k = 2)) rfl rfl rfl rfl ?_
  refine wpo_move (v := .bool (decide (k = 2))) rfl rfl ?_
  rcases bcases (decide (k = 2)) with h4059 | h4059
  ·
   have h4060 := of_decide_eq_true h4059
   refine wpo_pass rfl rfl rfl h4059 rfl ?_
   refine wpo_pass rfl rfl rfl h4059 rfl ?_
   refine wpo_pickt (v := .bool true) rfl h4059 rfl rfl ?_
   exact wpo_nil ⟨⟨rfl, rfl, rfl, (congrArg Value.bool (by first | (simp only [h4059, hk, hlit, b0, b1, b2, b3, b4, b5, b6, b7, b8, b9]; done) | simp [h4059, hk, hlit]))⟩, rfl⟩
  ·
   have h4061 := of_decide_eq_false h4059
   refine wpo_run rfl rfl rfl h4059 ?_
   refine wpo_move (v := .int .i64 k) rfl rfl ?_
   refine wpo_run rfl rfl rfl h4059 ?_
   refine wpo_eql (q := decide (k = 3)) rfl rfl rfl rfl ?_
   refine wpo_pickf (v := .bool (decide (k = 3))) rfl h4059 rfl rfl ?_
   exact wpo_nil ⟨⟨rfl, rfl, rfl, (congrArg Value.bool (by first | (simp only [h4059, hk, hlit, b0, b1, b2, b3, b4, b5, b6, b7, b8, b9]; done) | simp [h4059, hk, hlit]))⟩, rfl⟩
 ·
  rintro f4062 w4063 ⟨⟨e4064, e4065, e4066, e4067⟩, rfl⟩
  refine wpf_condt e4067 hk ?_
  refine wpf_region ?_
  refine wpo_build (ps := []) (v := .agg #[.int .i64 0, .int .i64 0, .bool false, .bool false, .bool false, .int .i64 0, .int .i64 0, .bool false, .bool false, .bool false, .int .i64 0, .int .i64 0, .bool false, .bool false, .bool false, .int .i64 0, .int .i64 0, .bool false, .bool false, .bool false]) parts_nil (by kernel_rfl) rfl ?_
  have k4068 := ((k4051.grown0 hN4054.grw).grown hS4057.grw (some_ne (by omega)))
  have k4069 := ((hN4049.blk.grown0 hN4054.grw).grown hS4057.grw (some_ne (by omega)))
  refine wpo_call (vs := [.agg #[.int .i64 0, .int .i64 0, .bool false, .bool false, .bool false, .int .i64 0, .int .i64 0, .bool false, .bool false, .bool false, .int .i64 0, .int .i64 0, .bool false, .bool false, .bool false, .int .i64 0, .int .i64 0, .bool false, .bool false, .bool false]]) gf_68 (args_cons rfl args_nil) rfl (list4_c _) ?_
  rintro _ w4075 ⟨B4070, cap4071, rfl, hge4072, hO4073, hg4074⟩
  have hb4076 := low0 hb4058 hg4074
  have hlB4070 := Nat.le_trans hb4058.size hge4072
  have lt_B4043_B4070 := Nat.lt_of_lt_of_le (k4068).lt hge4072
  have lt_B4047_B4070 := Nat.lt_of_lt_of_le (k4069).lt hge4072
  have lt_B4052_B4070 := Nat.lt_of_lt_of_le (hS4057.blk).lt hge4072
  refine wpo_fieldAddr (o' := 5) fo_45_4 e4066 rfl rfl ?_
  have k4077 := (hS4057.blk.grown0 hg4074)
  refine wpo_store1 (v := .slice (some ⟨B4070, 0, none⟩) 4 cap4071) (cs' := #[.int .i64 k, .int .i64 l.s, .int .i64 l.v, .int .i64 0, .int .i64 0, .slice (some ⟨B4070, 0, none⟩) 4 cap4071, .slice none 0 0, .int .i64 to]) ot_27 rfl rfl rfl k4077 (Nat.le_of_ble_eq_true rfl) rfl ?_
  intro w4078 hS4079
  have hb4080 := low1 hb4076 hS4079.grw (by omega)
  refine wpo_nil ?_
  refine thn_n ?_
  refine wpf_seq ?_
  refine wpf_seq_region ?_
  refine wpo_loadn (vs := [.int .i64 k, .int .i64 l.s, .int .i64 l.v, .int .i64 0, .int .i64 0, .slice (some ⟨B4070, 0, none⟩) 4 cap4071, .slice none 0 0, .int .i64 to]) rt_45 e4066 rfl (hS4079.blk.rangeL 0 8 rfl) rfl ?_
  have k4081 := (hO4073.grown hS4079.grw (some_ne (by omega)))
  refine wpo_call (vs := [.agg #[.int .i64 k, .int .i64 l.s, .int .i64 l.v, .int .i64 0, .int .i64 0, .slice (some ⟨B4070, 0, none⟩) 4 cap4071, .slice none 0 0, .int .i64 to]]) gf_26 (args_cons rfl args_nil) rfl (ThingOk_c (⟨⟨k, l, 0, 0, zeros4, [], to⟩, some ⟨B4070, 0, none⟩, cap4071, none, 0⟩ : MTh) _ (Own.sl wide_rt k4081) SlAt.nil (by first | omega | exact Nat.le_of_ble_eq_true rfl | (simp only [List.length_nil, List.length_cons, List.length_append, List.length_replicate]; omega)) (by first | omega | exact Nat.le_of_ble_eq_true rfl | (simp only [List.length_nil, List.length_cons, List.length_append, List.length_replicate]; omega))) ?_
  rintro _ w4082 ⟨rfl, hg4083⟩
  have hb4084 := low0 hb4080 hg4083
  refine wpo_not (b' := !thingOk (⟨k, l, 0, 0, zeros4, [], to⟩ : Th)) rfl rfl rfl ?_
  refine wpo_nil ?_
  refine wpf_condf rfl (not_of_t hlit) ?_
  refine wpf_skip ?_
  refine thn_n ?_
  refine wpf_seq_region ?_
  have k4085 := (hS4079.blk.grown0 hg4083)
  refine wpo_loadn (vs := [.int .i64 k, .int .i64 l.s, .int .i64 l.v, .int .i64 0, .int .i64 0, .slice (some ⟨B4070, 0, none⟩) 4 cap4071, .slice none 0 0, .int .i64 to]) rt_45 e4066 rfl (k4085.rangeL 0 8 rfl) rfl ?_
  have k4086 := (((k4069.grown0 hg4074).grown hS4079.grw (some_ne (by omega))).grown0 hg4083)
  refine wpo_storen (vs := [.int .i64 k, .int .i64 l.s, .int .i64 l.v, .int .i64 0, .int .i64 0, .slice (some ⟨B4070, 0, none⟩) 4 cap4071, .slice none 0 0, .int .i64 to]) (cs' := #[.int .i64 k, .int .i64 l.s, .int .i64 l.v, .int .i64 0, .int .i64 0, .slice (some ⟨B4070, 0, none⟩) 4 cap4071, .slice none 0 0, .int .i64 to]) rt_45 e4064 rfl rfl (by simp [Value.oneCell']) k4086 (Nat.le_of_ble_eq_true rfl) rfl ?_
  intro w4087 hS4088
  have hb4089 := low1 hb4084 hS4088.grw (by omega)
  refine wpo_assign (v := .bool true) rfl rfl ?_
  refine wpo_nil ?_
  refine wpf_ret ?_
  have k4090 := ((k4081.grown0 hg4083).grown hS4088.grw (some_ne (by omega)))
  refine ⟨.tuple #[.agg #[.int .i64 k, .int .i64 l.s, .int .i64 l.v, .int .i64 0, .int .i64 0, .slice (some ⟨B4070, 0, none⟩) 4 cap4071, .slice none 0 0, .int .i64 to], .bool true], resCT rfl (resCell_mk (vs := [.int .i64 k, .int .i64 l.s, .int .i64 l.v, .int .i64 0, .int .i64 0, .slice (some ⟨B4070, 0, none⟩) 4 cap4071, .slice none 0 0, .int .i64 to]) rt_45 e4064 rfl (hS4088.blk.rangeL 0 8 rfl)) rfl, B4070, cap4071, rfl, hlB4070, k4090, hb4089⟩

theorem ThingNew_yf (k to : Int) (l : Lab) (hk : ((decide (k = 2)) || (decide (k = 3))) = true) (hok : newOk k l to = false) (w : World) : CallsR Try.prog 24 #[.int .i64 k, .agg #[.int .i64 l.s, .int .i64 l.v], .int .i64 to] w (fun v w' => v = .tuple #[.agg #[.int .i64 0, .int .i64 0, .int .i64 0, .int .i64 0, .int .i64 0, .slice none 0 0, .slice none 0 0, .int .i64 0], .bool false] ∧ w.grownBy w' none) := by
 refine calls_of_wpf (n := 27) Try.func24 rfl Try.ntmps24 rfl ?_
 have hb0 := World.grownBy.refl w none
 have hlit : thingOk (⟨k, l, 0, 0, zeros4, [], to⟩ : Th) = false := (newOk_y hk).symm.trans hok
 refine wpf_seq_region ?_
 refine wpo_box (v := .agg #[.int .i64 l.s, .int .i64 l.v]) (cs := #[.int .i64 l.s, .int .i64 l.v]) rfl rfl rfl ?_
 intro B4091 w4092 hN4093
 have hlB4091 := hN_ge hN4093 hb0
 have hb4094 := low0 hb0 hN4093.grw
 refine wpo_alloc (cs := #[.int .i64 0, .int .i64 0, .int .i64 0, .int .i64 0, .int .i64 0, .slice none 0 0, .slice none 0 0, .int .i64 0]) zt_45 rfl rfl ?_
 intro B4095 w4096 hN4097
 have hlB4095 := hN_ge hN4097 hb4094
 have lt_B4091_B4095 := hN_gtl hN4097 (hN4093.blk).lt
 have hb4098 := low0 hb4094 hN4097.grw
 refine wpo_assign (v := .bool false) rfl rfl ?_
 refine wpo_nil ?_
 refine wpf_seq_region ?_
 refine wpo_move (v := .int .i64 k) rfl rfl ?_
 have k4099 := (hN4093.blk.grown0 hN4097.grw)
 refine wpo_loadn (vs := [.int .i64 l.s, .int .i64 l.v]) rt_40 rfl rfl (k4099.rangeL 0 2 rfl) rfl ?_
 refine wpo_move (v := .int .i64 to) rfl rfl ?_
 refine wpo_build (ps := [(0, .int .i64 k), (1, .agg #[.int .i64 l.s, .int .i64 l.v]), (6, .int .i64 to)]) (v := .agg #[.int .i64 k, .int .i64 l.s, .int .i64 l.v, .int .i64 0, .int .i64 0, .slice none 0 0, .slice none 0 0, .int .i64 to]) (parts_cons rfl (parts_cons rfl (parts_cons rfl parts_nil))) (by kernel_rfl) rfl ?_
 refine wpo_alloc (cs := #[.int .i64 0, .int .i64 0, .int .i64 0, .int .i64 0, .int .i64 0, .slice none 0 0, .slice none 0 0, .int .i64 0]) zt_45 rfl rfl ?_
 intro B4100 w4101 hN4102
 have hlB4100 := hN_ge hN4102 hb4098
 have lt_B4091_B4100 := hN_gtl hN4102 (k4099).lt
 have lt_B4095_B4100 := hN_gtl hN4102 (hN4097.blk).lt
 have hb4103 := low0 hb4098 hN4102.grw
 refine wpo_storen (vs := [.int .i64 k, .int .i64 l.s, .int .i64 l.v, .int .i64 0, .int .i64 0, .slice none 0 0, .slice none 0 0, .int .i64 to]) (cs' := #[.int .i64 k, .int .i64 l.s, .int .i64 l.v, .int .i64 0, .int .i64 0, .slice none 0 0, .slice none 0 0, .int .i64 to]) rt_45 rfl rfl rfl (by simp [Value.oneCell']) hN4102.blk (Nat.le_of_ble_eq_true rfl) rfl ?_
 intro w4104 hS4105
 have hb4106 := low1 hb4103 hS4105.grw (by omega)
 refine wpo_nil ?_
 refine wpf_seq ?_
 refine wpf_seq_region_mid (fun f' w' => (f' 6 = .pointer (some ⟨B4095, 0, none⟩) ∧ f' 7 = .bool false ∧ f' 8 = .pointer (some ⟨B4100, 0, none⟩) ∧ f' 18 = .bool ((decide (k = 2)) || (decide (k = 3)))) ∧ w4104 = w') ?_ ?_
 ·
  refine wpo_move (v := .int .i64 k) rfl rfl ?_
  refine wpo_eql (q := decide (k = 2)) rfl rfl rfl rfl ?_
  refine wpo_move (v := .bool (decide (k = 2))) rfl rfl ?_
  rcases bcases (decide (k = 2)) with h4107 | h4107
  ·
   have h4108 := of_decide_eq_true h4107
   refine wpo_pass rfl rfl rfl h4107 rfl ?_
   refine wpo_pass rfl rfl rfl h4107 rfl ?_
   refine wpo_pickt (v := .bool true) rfl h4107 rfl rfl ?_
   exact wpo_nil ⟨⟨rfl, rfl, rfl, (congrArg Value.bool (by first | (simp only [h4107, hk, hlit, b0, b1, b2, b3, b4, b5, b6, b7, b8, b9]; done) | simp [h4107, hk, hlit]))⟩, rfl⟩
  ·
   have h4109 := of_decide_eq_false h4107
   refine wpo_run rfl rfl rfl h4107 ?_
   refine wpo_move (v := .int .i64 k) rfl rfl ?_
   refine wpo_run rfl rfl rfl h4107 ?_
   refine wpo_eql (q := decide (k = 3)) rfl rfl rfl rfl ?_
   refine wpo_pickf (v := .bool (decide (k = 3))) rfl h4107 rfl rfl ?_
   exact wpo_nil ⟨⟨rfl, rfl, rfl, (congrArg Value.bool (by first | (simp only [h4107, hk, hlit, b0, b1, b2, b3, b4, b5, b6, b7, b8, b9]; done) | simp [h4107, hk, hlit]))⟩, rfl⟩
 ·
  rintro f4110 w4111 ⟨⟨e4112, e4113, e4114, e4115⟩, rfl⟩
  refine wpf_condt e4115 hk ?_
  refine wpf_region ?_
  refine wpo_build (ps := []) (v := .agg #[.int .i64 0, .int .i64 0, .bool false, .bool false, .bool false, .int .i64 0, .int .i64 0, .bool false, .bool false, .bool false, .int .i64 0, .int .i64 0, .bool false, .bool false, .bool false, .int .i64 0, .int .i64 0, .bool false, .bool false, .bool false]) parts_nil (by kernel_rfl) rfl ?_
  have k4116 := ((k4099.grown0 hN4102.grw).grown hS4105.grw (some_ne (by omega)))
  have k4117 := ((hN4097.blk.grown0 hN4102.grw).grown hS4105.grw (some_ne (by omega)))
  refine wpo_call (vs := [.agg #[.int .i64 0, .int .i64 0, .bool false, .bool false, .bool false, .int .i64 0, .int .i64 0, .bool false, .bool false, .bool false, .int .i64 0, .int .i64 0, .bool false, .bool false, .bool false, .int .i64 0, .int .i64 0, .bool false, .bool false, .bool false]]) gf_68 (args_cons rfl args_nil) rfl (list4_c _) ?_
  rintro _ w4123 ⟨B4118, cap4119, rfl, hge4120, hO4121, hg4122⟩
  have hb4124 := low0 hb4106 hg4122
  have hlB4118 := Nat.le_trans hb4106.size hge4120
  have lt_B4091_B4118 := Nat.lt_of_lt_of_le (k4116).lt hge4120
  have lt_B4095_B4118 := Nat.lt_of_lt_of_le (k4117).lt hge4120
  have lt_B4100_B4118 := Nat.lt_of_lt_of_le (hS4105.blk).lt hge4120
  refine wpo_fieldAddr (o' := 5) fo_45_4 e4114 rfl rfl ?_
  have k4125 := (hS4105.blk.grown0 hg4122)
  refine wpo_store1 (v := .slice (some ⟨B4118, 0, none⟩) 4 cap4119) (cs' := #[.int .i64 k, .int .i64 l.s, .int .i64 l.v, .int .i64 0, .int .i64 0, .slice (some ⟨B4118, 0, none⟩) 4 cap4119, .slice none 0 0, .int .i64 to]) ot_27 rfl rfl rfl k4125 (Nat.le_of_ble_eq_true rfl) rfl ?_
  intro w4126 hS4127
  have hb4128 := low1 hb4124 hS4127.grw (by omega)
  refine wpo_nil ?_
  refine thn_n ?_
  refine wpf_seq ?_
  refine wpf_seq_region ?_
  refine wpo_loadn (vs := [.int .i64 k, .int .i64 l.s, .int .i64 l.v, .int .i64 0, .int .i64 0, .slice (some ⟨B4118, 0, none⟩) 4 cap4119, .slice none 0 0, .int .i64 to]) rt_45 e4114 rfl (hS4127.blk.rangeL 0 8 rfl) rfl ?_
  have k4129 := (hO4121.grown hS4127.grw (some_ne (by omega)))
  refine wpo_call (vs := [.agg #[.int .i64 k, .int .i64 l.s, .int .i64 l.v, .int .i64 0, .int .i64 0, .slice (some ⟨B4118, 0, none⟩) 4 cap4119, .slice none 0 0, .int .i64 to]]) gf_26 (args_cons rfl args_nil) rfl (ThingOk_c (⟨⟨k, l, 0, 0, zeros4, [], to⟩, some ⟨B4118, 0, none⟩, cap4119, none, 0⟩ : MTh) _ (Own.sl wide_rt k4129) SlAt.nil (by first | omega | exact Nat.le_of_ble_eq_true rfl | (simp only [List.length_nil, List.length_cons, List.length_append, List.length_replicate]; omega)) (by first | omega | exact Nat.le_of_ble_eq_true rfl | (simp only [List.length_nil, List.length_cons, List.length_append, List.length_replicate]; omega))) ?_
  rintro _ w4130 ⟨rfl, hg4131⟩
  have hb4132 := low0 hb4128 hg4131
  refine wpo_not (b' := !thingOk (⟨k, l, 0, 0, zeros4, [], to⟩ : Th)) rfl rfl rfl ?_
  refine wpo_nil ?_
  refine wpf_condt rfl (not_of_f hlit) ?_
  refine wpf_seq_region ?_
  refine wpo_build (ps := []) (v := .agg #[.int .i64 0, .int .i64 0, .int .i64 0, .int .i64 0, .int .i64 0, .slice none 0 0, .slice none 0 0, .int .i64 0]) parts_nil (by kernel_rfl) rfl ?_
  have k4133 := (((k4117.grown0 hg4122).grown hS4127.grw (some_ne (by omega))).grown0 hg4131)
  refine wpo_storen (vs := [.int .i64 0, .int .i64 0, .int .i64 0, .int .i64 0, .int .i64 0, .slice none 0 0, .slice none 0 0, .int .i64 0]) (cs' := #[.int .i64 0, .int .i64 0, .int .i64 0, .int .i64 0, .int .i64 0, .slice none 0 0, .slice none 0 0, .int .i64 0]) rt_45 e4112 rfl rfl (by simp [Value.oneCell']) k4133 (Nat.le_of_ble_eq_true rfl) rfl ?_
  intro w4134 hS4135
  have hb4136 := low1 hb4132 hS4135.grw (by omega)
  refine wpo_assign (v := .bool false) rfl rfl ?_
  refine wpo_nil ?_
  refine wpf_ret ?_
  refine thn_r ?_
  refine ⟨.tuple #[.agg #[.int .i64 0, .int .i64 0, .int .i64 0, .int .i64 0, .int .i64 0, .slice none 0 0, .slice none 0 0, .int .i64 0], .bool false], resCT rfl (resCell_mk (vs := [.int .i64 0, .int .i64 0, .int .i64 0, .int .i64 0, .int .i64 0, .slice none 0 0, .slice none 0 0, .int .i64 0]) rt_45 e4112 rfl (hS4135.blk.rangeL 0 8 rfl)) rfl, rfl, hb4136⟩

theorem ThingNew_nt (k to : Int) (l : Lab) (hk : ((decide (k = 2)) || (decide (k = 3))) = false) (hok : newOk k l to = true) (w : World) : CallsR Try.prog 24 #[.int .i64 k, .agg #[.int .i64 l.s, .int .i64 l.v], .int .i64 to] w (fun v w' => v = .tuple #[.agg #[.int .i64 k, .int .i64 l.s, .int .i64 l.v, .int .i64 0, .int .i64 0, .slice none 0 0, .slice none 0 0, .int .i64 to], .bool true] ∧ w.grownBy w' none) := by
 refine calls_of_wpf (n := 27) Try.func24 rfl Try.ntmps24 rfl ?_
 have hb0 := World.grownBy.refl w none
 have hlit : thingOk (⟨k, l, 0, 0, [], [], to⟩ : Th) = true := (newOk_n hk).symm.trans hok
 have h4137 : decide (k = 2) = false := or_l hk
 have h4138 : decide (k = 3) = false := or_r hk
 refine wpf_seq_region ?_
 refine wpo_box (v := .agg #[.int .i64 l.s, .int .i64 l.v]) (cs := #[.int .i64 l.s, .int .i64 l.v]) rfl rfl rfl ?_
 intro B4139 w4140 hN4141
 have hlB4139 := hN_ge hN4141 hb0
 have hb4142 := low0 hb0 hN4141.grw
 refine wpo_alloc (cs := #[.int .i64 0, .int .i64 0, .int .i64 0, .int .i64 0, .int .i64 0, .slice none 0 0, .slice none 0 0, .int .i64 0]) zt_45 rfl rfl ?_
 intro B4143 w4144 hN4145
 have hlB4143 := hN_ge hN4145 hb4142
 have lt_B4139_B4143 := hN_gtl hN4145 (hN4141.blk).lt
 have hb4146 := low0 hb4142 hN4145.grw
 refine wpo_assign (v := .bool false) rfl rfl ?_
 refine wpo_nil ?_
 refine wpf_seq_region ?_
 refine wpo_move (v := .int .i64 k) rfl rfl ?_
 have k4147 := (hN4141.blk.grown0 hN4145.grw)
 refine wpo_loadn (vs := [.int .i64 l.s, .int .i64 l.v]) rt_40 rfl rfl (k4147.rangeL 0 2 rfl) rfl ?_
 refine wpo_move (v := .int .i64 to) rfl rfl ?_
 refine wpo_build (ps := [(0, .int .i64 k), (1, .agg #[.int .i64 l.s, .int .i64 l.v]), (6, .int .i64 to)]) (v := .agg #[.int .i64 k, .int .i64 l.s, .int .i64 l.v, .int .i64 0, .int .i64 0, .slice none 0 0, .slice none 0 0, .int .i64 to]) (parts_cons rfl (parts_cons rfl (parts_cons rfl parts_nil))) (by kernel_rfl) rfl ?_
 refine wpo_alloc (cs := #[.int .i64 0, .int .i64 0, .int .i64 0, .int .i64 0, .int .i64 0, .slice none 0 0, .slice none 0 0, .int .i64 0]) zt_45 rfl rfl ?_
 intro B4148 w4149 hN4150
 have hlB4148 := hN_ge hN4150 hb4146
 have lt_B4139_B4148 := hN_gtl hN4150 (k4147).lt
 have lt_B4143_B4148 := hN_gtl hN4150 (hN4145.blk).lt
 have hb4151 := low0 hb4146 hN4150.grw
 refine wpo_storen (vs := [.int .i64 k, .int .i64 l.s, .int .i64 l.v, .int .i64 0, .int .i64 0, .slice none 0 0, .slice none 0 0, .int .i64 to]) (cs' := #[.int .i64 k, .int .i64 l.s, .int .i64 l.v, .int .i64 0, .int .i64 0, .slice none 0 0, .slice none 0 0, .int .i64 to]) rt_45 rfl rfl rfl (by simp [Value.oneCell']) hN4150.blk (Nat.le_of_ble_eq_true rfl) rfl ?_
 intro w4152 hS4153
 have hb4154 := low1 hb4151 hS4153.grw (by omega)
 refine wpo_nil ?_
 refine wpf_seq ?_
 refine wpf_seq_region ?_
 refine wpo_move (v := .int .i64 k) rfl rfl ?_
 refine wpo_eql (q := decide (k = 2)) rfl rfl rfl rfl ?_
 refine wpo_move (v := .bool (decide (k = 2))) rfl rfl ?_
 refine wpo_run rfl rfl rfl h4137 ?_
 refine wpo_move (v := .int .i64 k) rfl rfl ?_
 refine wpo_run rfl rfl rfl h4137 ?_
 refine wpo_eql (q := decide (k = 3)) rfl rfl rfl rfl ?_
 refine wpo_pickf (v := .bool (decide (k = 3))) rfl h4137 rfl rfl ?_
 refine wpo_nil ?_
 refine wpf_condf rfl h4138 ?_
 refine wpf_skip ?_
 refine thn_n ?_
 refine wpf_seq ?_
 refine wpf_seq_region ?_
 refine wpo_loadn (vs := [.int .i64 k, .int .i64 l.s, .int .i64 l.v, .int .i64 0, .int .i64 0, .slice none 0 0, .slice none 0 0, .int .i64 to]) rt_45 rfl rfl (hS4153.blk.rangeL 0 8 rfl) rfl ?_
 refine wpo_call (vs := [.agg #[.int .i64 k, .int .i64 l.s, .int .i64 l.v, .int .i64 0, .int .i64 0, .slice none 0 0, .slice none 0 0, .int .i64 to]]) gf_26 (args_cons rfl args_nil) rfl (ThingOk_c (⟨⟨k, l, 0, 0, [], [], to⟩, none, 0, none, 0⟩ : MTh) _ SlAt.nil SlAt.nil (by first | omega | exact Nat.le_of_ble_eq_true rfl | (simp only [List.length_nil, List.length_cons, List.length_append, List.length_replicate]; omega)) (by first | omega | exact Nat.le_of_ble_eq_true rfl | (simp only [List.length_nil, List.length_cons, List.length_append, List.length_replicate]; omega))) ?_
 rintro _ w4155 ⟨rfl, hg4156⟩
 have hb4157 := low0 hb4154 hg4156
 refine wpo_not (b' := !thingOk (⟨k, l, 0, 0, [], [], to⟩ : Th)) rfl rfl rfl ?_
 refine wpo_nil ?_
 refine wpf_condf rfl (not_of_t hlit) ?_
 refine wpf_skip ?_
 refine thn_n ?_
 refine wpf_seq_region ?_
 have k4158 := (hS4153.blk.grown0 hg4156)
 refine wpo_loadn (vs := [.int .i64 k, .int .i64 l.s, .int .i64 l.v, .int .i64 0, .int .i64 0, .slice none 0 0, .slice none 0 0, .int .i64 to]) rt_45 rfl rfl (k4158.rangeL 0 8 rfl) rfl ?_
 have k4159 := (((hN4145.blk.grown0 hN4150.grw).grown hS4153.grw (some_ne (by omega))).grown0 hg4156)
 refine wpo_storen (vs := [.int .i64 k, .int .i64 l.s, .int .i64 l.v, .int .i64 0, .int .i64 0, .slice none 0 0, .slice none 0 0, .int .i64 to]) (cs' := #[.int .i64 k, .int .i64 l.s, .int .i64 l.v, .int .i64 0, .int .i64 0, .slice none 0 0, .slice none 0 0, .int .i64 to]) rt_45 rfl rfl rfl (by simp [Value.oneCell']) k4159 (Nat.le_of_ble_eq_true rfl) rfl ?_
 intro w4160 hS4161
 have hb4162 := low1 hb4157 hS4161.grw (by omega)
 refine wpo_assign (v := .bool true) rfl rfl ?_
 refine wpo_nil ?_
 refine wpf_ret ?_
 refine ⟨.tuple #[.agg #[.int .i64 k, .int .i64 l.s, .int .i64 l.v, .int .i64 0, .int .i64 0, .slice none 0 0, .slice none 0 0, .int .i64 to], .bool true], resCT rfl (resCell_mk (vs := [.int .i64 k, .int .i64 l.s, .int .i64 l.v, .int .i64 0, .int .i64 0, .slice none 0 0, .slice none 0 0, .int .i64 to]) rt_45 rfl rfl (hS4161.blk.rangeL 0 8 rfl)) rfl, rfl, hb4162⟩

theorem ThingNew_nf (k to : Int) (l : Lab) (hk : ((decide (k = 2)) || (decide (k = 3))) = false) (hok : newOk k l to = false) (w : World) : CallsR Try.prog 24 #[.int .i64 k, .agg #[.int .i64 l.s, .int .i64 l.v], .int .i64 to] w (fun v w' => v = .tuple #[.agg #[.int .i64 0, .int .i64 0, .int .i64 0, .int .i64 0, .int .i64 0, .slice none 0 0, .slice none 0 0, .int .i64 0], .bool false] ∧ w.grownBy w' none) := by
 refine calls_of_wpf (n := 27) Try.func24 rfl Try.ntmps24 rfl ?_
 have hb0 := World.grownBy.refl w none
 have hlit : thingOk (⟨k, l, 0, 0, [], [], to⟩ : Th) = false := (newOk_n hk).symm.trans hok
 have h4163 : decide (k = 2) = false := or_l hk
 have h4164 : decide (k = 3) = false := or_r hk
 refine wpf_seq_region ?_
 refine wpo_box (v := .agg #[.int .i64 l.s, .int .i64 l.v]) (cs := #[.int .i64 l.s, .int .i64 l.v]) rfl rfl rfl ?_
 intro B4165 w4166 hN4167
 have hlB4165 := hN_ge hN4167 hb0
 have hb4168 := low0 hb0 hN4167.grw
 refine wpo_alloc (cs := #[.int .i64 0, .int .i64 0, .int .i64 0, .int .i64 0, .int .i64 0, .slice none 0 0, .slice none 0 0, .int .i64 0]) zt_45 rfl rfl ?_
 intro B4169 w4170 hN4171
 have hlB4169 := hN_ge hN4171 hb4168
 have lt_B4165_B4169 := hN_gtl hN4171 (hN4167.blk).lt
 have hb4172 := low0 hb4168 hN4171.grw
 refine wpo_assign (v := .bool false) rfl rfl ?_
 refine wpo_nil ?_
 refine wpf_seq_region ?_
 refine wpo_move (v := .int .i64 k) rfl rfl ?_
 have k4173 := (hN4167.blk.grown0 hN4171.grw)
 refine wpo_loadn (vs := [.int .i64 l.s, .int .i64 l.v]) rt_40 rfl rfl (k4173.rangeL 0 2 rfl) rfl ?_
 refine wpo_move (v := .int .i64 to) rfl rfl ?_
 refine wpo_build (ps := [(0, .int .i64 k), (1, .agg #[.int .i64 l.s, .int .i64 l.v]), (6, .int .i64 to)]) (v := .agg #[.int .i64 k, .int .i64 l.s, .int .i64 l.v, .int .i64 0, .int .i64 0, .slice none 0 0, .slice none 0 0, .int .i64 to]) (parts_cons rfl (parts_cons rfl (parts_cons rfl parts_nil))) (by kernel_rfl) rfl ?_
 refine wpo_alloc (cs := #[.int .i64 0, .int .i64 0, .int .i64 0, .int .i64 0, .int .i64 0, .slice none 0 0, .slice none 0 0, .int .i64 0]) zt_45 rfl rfl ?_
 intro B4174 w4175 hN4176
 have hlB4174 := hN_ge hN4176 hb4172
 have lt_B4165_B4174 := hN_gtl hN4176 (k4173).lt
 have lt_B4169_B4174 := hN_gtl hN4176 (hN4171.blk).lt
 have hb4177 := low0 hb4172 hN4176.grw
 refine wpo_storen (vs := [.int .i64 k, .int .i64 l.s, .int .i64 l.v, .int .i64 0, .int .i64 0, .slice none 0 0, .slice none 0 0, .int .i64 to]) (cs' := #[.int .i64 k, .int .i64 l.s, .int .i64 l.v, .int .i64 0, .int .i64 0, .slice none 0 0, .slice none 0 0, .int .i64 to]) rt_45 rfl rfl rfl (by simp [Value.oneCell']) hN4176.blk (Nat.le_of_ble_eq_true rfl) rfl ?_
 intro w4178 hS4179
 have hb4180 := low1 hb4177 hS4179.grw (by omega)
 refine wpo_nil ?_
 refine wpf_seq ?_
 refine wpf_seq_region ?_
 refine wpo_move (v := .int .i64 k) rfl rfl ?_
 refine wpo_eql (q := decide (k = 2)) rfl rfl rfl rfl ?_
 refine wpo_move (v := .bool (decide (k = 2))) rfl rfl ?_
 refine wpo_run rfl rfl rfl h4163 ?_
 refine wpo_move (v := .int .i64 k) rfl rfl ?_
 refine wpo_run rfl rfl rfl h4163 ?_
 refine wpo_eql (q := decide (k = 3)) rfl rfl rfl rfl ?_
 refine wpo_pickf (v := .bool (decide (k = 3))) rfl h4163 rfl rfl ?_
 refine wpo_nil ?_
 refine wpf_condf rfl h4164 ?_
 refine wpf_skip ?_
 refine thn_n ?_
 refine wpf_seq ?_
 refine wpf_seq_region ?_
 refine wpo_loadn (vs := [.int .i64 k, .int .i64 l.s, .int .i64 l.v, .int .i64 0, .int .i64 0, .slice none 0 0, .slice none 0 0, .int .i64 to]) rt_45 rfl rfl (hS4179.blk.rangeL 0 8 rfl) rfl ?_
 refine wpo_call (vs := [.agg #[.int .i64 k, .int .i64 l.s, .int .i64 l.v, .int .i64 0, .int .i64 0, .slice none 0 0, .slice none 0 0, .int .i64 to]]) gf_26 (args_cons rfl args_nil) rfl (ThingOk_c (⟨⟨k, l, 0, 0, [], [], to⟩, none, 0, none, 0⟩ : MTh) _ SlAt.nil SlAt.nil (by first | omega | exact Nat.le_of_ble_eq_true rfl | (simp only [List.length_nil, List.length_cons, List.length_append, List.length_replicate]; omega)) (by first | omega | exact Nat.le_of_ble_eq_true rfl | (simp only [List.length_nil, List.length_cons, List.length_append, List.length_replicate]; omega))) ?_
 rintro _ w4181 ⟨rfl, hg4182⟩
 have hb4183 := low0 hb4180 hg4182
 refine wpo_not (b' := !thingOk (⟨k, l, 0, 0, [], [], to⟩ : Th)) rfl rfl rfl ?_
 refine wpo_nil ?_
 refine wpf_condt rfl (not_of_f hlit) ?_
 refine wpf_seq_region ?_
 refine wpo_build (ps := []) (v := .agg #[.int .i64 0, .int .i64 0, .int .i64 0, .int .i64 0, .int .i64 0, .slice none 0 0, .slice none 0 0, .int .i64 0]) parts_nil (by kernel_rfl) rfl ?_
 have k4184 := (((hN4171.blk.grown0 hN4176.grw).grown hS4179.grw (some_ne (by omega))).grown0 hg4182)
 refine wpo_storen (vs := [.int .i64 0, .int .i64 0, .int .i64 0, .int .i64 0, .int .i64 0, .slice none 0 0, .slice none 0 0, .int .i64 0]) (cs' := #[.int .i64 0, .int .i64 0, .int .i64 0, .int .i64 0, .int .i64 0, .slice none 0 0, .slice none 0 0, .int .i64 0]) rt_45 rfl rfl rfl (by simp [Value.oneCell']) k4184 (Nat.le_of_ble_eq_true rfl) rfl ?_
 intro w4185 hS4186
 have hb4187 := low1 hb4183 hS4186.grw (by omega)
 refine wpo_assign (v := .bool false) rfl rfl ?_
 refine wpo_nil ?_
 refine wpf_ret ?_
 refine thn_r ?_
 refine ⟨.tuple #[.agg #[.int .i64 0, .int .i64 0, .int .i64 0, .int .i64 0, .int .i64 0, .slice none 0 0, .slice none 0 0, .int .i64 0], .bool false], resCT rfl (resCell_mk (vs := [.int .i64 0, .int .i64 0, .int .i64 0, .int .i64 0, .int .i64 0, .slice none 0 0, .slice none 0 0, .int .i64 0]) rt_45 rfl rfl (hS4186.blk.rangeL 0 8 rfl)) rfl, rfl, hb4187⟩

theorem sThingNew_yt (k to : Int) (l : Lab) (hk : ((decide (k = 2)) || (decide (k = 3))) = true) (hok : newOk k l to = true) (w : World) : CallsR Try.prog 23 #[.int .i64 k, .agg #[.int .i64 l.s, .int .i64 l.v], .int .i64 to] w (fun v w' => ∃ (S sc Q qc : Nat), v = .tuple #[.agg #[.int .i64 k, .int .i64 l.s, .int .i64 l.v, .int .i64 0, .int .i64 0, .slice (some ⟨S, 0, none⟩) 4 sc, .slice (some ⟨Q, 0, none⟩) 0 qc, .int .i64 to], .bool true] ∧ w.heap.size ≤ S ∧ Dw.Own w' S 29 5 sc 4 (zeros4.flatMap Rt.cells) ∧ w.heap.size ≤ Q ∧ Dw.Own w' Q 3 1 qc 0 (([] : List Int).flatMap icell) ∧ S ≠ Q ∧ w.grownBy w' none) := by
 refine calls_of_wpf (n := 24) Try.func23 rfl Try.ntmps23 rfl ?_
 have hb0 := World.grownBy.refl w none
 have hlit : thingOk (⟨k, l, 0, 0, zeros4, [], to⟩ : Th) = true := (newOk_y hk).symm.trans hok
 refine wpf_seq_region ?_
 refine wpo_box (v := .agg #[.int .i64 l.s, .int .i64 l.v]) (cs := #[.int .i64 l.s, .int .i64 l.v]) rfl rfl rfl ?_
 intro B4188 w4189 hN4190
 have hlB4188 := hN_ge hN4190 hb0
 have hb4191 := low0 hb0 hN4190.grw
 refine wpo_alloc (cs := #[.int .i64 0, .int .i64 0, .int .i64 0, .int .i64 0, .int .i64 0, .slice none 0 0, .slice none 0 0, .int .i64 0]) zt_45 rfl rfl ?_
 intro B4192 w4193 hN4194
 have hlB4192 := hN_ge hN4194 hb4191
 have lt_B4188_B4192 := hN_gtl hN4194 (hN4190.blk).lt
 have hb4195 := low0 hb4191 hN4194.grw
 refine wpo_assign (v := .bool false) rfl rfl ?_
 refine wpo_nil ?_
 refine wpf_seq_region ?_
 refine wpo_move (v := .int .i64 k) rfl rfl ?_
 have k4196 := (hN4190.blk.grown0 hN4194.grw)
 refine wpo_loadn (vs := [.int .i64 l.s, .int .i64 l.v]) rt_40 rfl rfl (k4196.rangeL 0 2 rfl) rfl ?_
 refine wpo_buildSlice (ps := []) (e := 29) (cs := (([] : List Rt).flatMap Rt.cells).toArray) parts_nil (fun _ => by kernel_rfl) rfl ?_
 intro B4197 w4198 hN4199
 have hlB4197 := hN_ge hN4199 hb4195
 have lt_B4188_B4197 := hN_gtl hN4199 (k4196).lt
 have lt_B4192_B4197 := hN_gtl hN4199 (hN4194.blk).lt
 have hb4200 := low0 hb4195 hN4199.grw
 refine wpo_buildSlice (ps := []) (e := 3) (cs := (([] : List Int).flatMap icell).toArray) parts_nil (fun _ => by kernel_rfl) rfl ?_
 intro B4201 w4202 hN4203
 have hlB4201 := hN_ge hN4203 hb4200
 have k4204 := (k4196.grown0 hN4199.grw)
 have lt_B4188_B4201 := hN_gtl hN4203 (k4204).lt
 have k4205 := (hN4194.blk.grown0 hN4199.grw)
 have lt_B4192_B4201 := hN_gtl hN4203 (k4205).lt
 have lt_B4197_B4201 := hN_gtl hN4203 (hN4199.blk).lt
 have hb4206 := low0 hb4200 hN4203.grw
 refine wpo_move (v := .int .i64 to) rfl rfl ?_
 refine wpo_build (ps := [(0, .int .i64 k), (1, .agg #[.int .i64 l.s, .int .i64 l.v]), (4, .slice (some ⟨B4197, 0, none⟩) 0 0), (5, .slice (some ⟨B4201, 0, none⟩) 0 0), (6, .int .i64 to)]) (v := .agg #[.int .i64 k, .int .i64 l.s, .int .i64 l.v, .int .i64 0, .int .i64 0, .slice (some ⟨B4197, 0, none⟩) 0 0, .slice (some ⟨B4201, 0, none⟩) 0 0, .int .i64 to]) (parts_cons rfl (parts_cons rfl (parts_cons rfl (parts_cons rfl (parts_cons rfl parts_nil))))) (by kernel_rfl) rfl ?_
 refine wpo_alloc (cs := #[.int .i64 0, .int .i64 0, .int .i64 0, .int .i64 0, .int .i64 0, .slice none 0 0, .slice none 0 0, .int .i64 0]) zt_45 rfl rfl ?_
 intro B4207 w4208 hN4209
 have hlB4207 := hN_ge hN4209 hb4206
 have k4210 := (k4204.grown0 hN4203.grw)
 have lt_B4188_B4207 := hN_gtl hN4209 (k4210).lt
 have k4211 := (k4205.grown0 hN4203.grw)
 have lt_B4192_B4207 := hN_gtl hN4209 (k4211).lt
 have k4212 := (hN4199.blk.grown0 hN4203.grw)
 have lt_B4197_B4207 := hN_gtl hN4209 (k4212).lt
 have lt_B4201_B4207 := hN_gtl hN4209 (hN4203.blk).lt
 have hb4213 := low0 hb4206 hN4209.grw
 refine wpo_storen (vs := [.int .i64 k, .int .i64 l.s, .int .i64 l.v, .int .i64 0, .int .i64 0, .slice (some ⟨B4197, 0, none⟩) 0 0, .slice (some ⟨B4201, 0, none⟩) 0 0, .int .i64 to]) (cs' := #[.int .i64 k, .int .i64 l.s, .int .i64 l.v, .int .i64 0, .int .i64 0, .slice (some ⟨B4197, 0, none⟩) 0 0, .slice (some ⟨B4201, 0, none⟩) 0 0, .int .i64 to]) rt_45 rfl rfl rfl (by simp [Value.oneCell']) hN4209.blk (Nat.le_of_ble_eq_true rfl) rfl ?_
 intro w4214 hS4215
 have hb4216 := low1 hb4213 hS4215.grw (by omega)
 refine wpo_nil ?_
 refine wpf_seq ?_
 refine wpf_seq_region ?_
 refine wpo_move (v := .int .i64 k) rfl rfl ?_
 refine wpo_call (vs := [.int .i64 k]) gf_66 (args_cons rfl args_nil) rfl (l3Slots_c k _) ?_
 rintro _ w4217 ⟨rfl, hg4218⟩
 have hb4219 := low0 hb4216 hg4218
 refine wpo_nil ?_
 refine wpf_condt rfl hk ?_
 refine wpf_region ?_
 refine wpo_make (g := Rt.cells) (z := Rt.zero) (c := 4) mk_27 rfl wide_rt (by omega) rfl rfl (by omega) (by omega) rfl ?_
 intro B4220 w4221 hN4222
 have hlB4220 := hN_ge hN4222 hb4219
 have k4223 := (((k4210.grown0 hN4209.grw).grown hS4215.grw (some_ne (by omega))).grown0 hg4218)
 have lt_B4188_B4220 := hN_gtl hN4222 (k4223).lt
 have k4224 := (((k4211.grown0 hN4209.grw).grown hS4215.grw (some_ne (by omega))).grown0 hg4218)
 have lt_B4192_B4220 := hN_gtl hN4222 (k4224).lt
 have k4225 := (((k4212.grown0 hN4209.grw).grown hS4215.grw (some_ne (by omega))).grown0 hg4218)
 have lt_B4197_B4220 := hN_gtl hN4222 (k4225).lt
 have k4226 := (((hN4203.blk.grown0 hN4209.grw).grown hS4215.grw (some_ne (by omega))).grown0 hg4218)
 have lt_B4201_B4220 := hN_gtl hN4222 (k4226).lt
 have k4227 := (hS4215.blk.grown0 hg4218)
 have lt_B4207_B4220 := hN_gtl hN4222 (k4227).lt
 have hb4228 := low0 hb4219 hN4222.grw
 refine wpo_fieldAddr (o' := 5) fo_45_4 rfl rfl rfl ?_
 have k4229 := (k4227.grown0 hN4222.grw)
 refine wpo_store1 (v := .slice (some ⟨B4220, 0, none⟩) 4 4) (cs' := #[.int .i64 k, .int .i64 l.s, .int .i64 l.v, .int .i64 0, .int .i64 0, .slice (some ⟨B4220, 0, none⟩) 4 4, .slice (some ⟨B4201, 0, none⟩) 0 0, .int .i64 to]) ot_27 rfl rfl rfl k4229 (Nat.le_of_ble_eq_true rfl) rfl ?_
 intro w4230 hS4231
 have hb4232 := low1 hb4228 hS4231.grw (by omega)
 refine wpo_nil ?_
 refine thn_n ?_
 refine wpf_seq ?_
 refine wpf_seq_region ?_
 refine wpo_loadn (vs := [.int .i64 k, .int .i64 l.s, .int .i64 l.v, .int .i64 0, .int .i64 0, .slice (some ⟨B4220, 0, none⟩) 4 4, .slice (some ⟨B4201, 0, none⟩) 0 0, .int .i64 to]) rt_45 rfl rfl (hS4231.blk.rangeL 0 8 rfl) rfl ?_
 have k4233 := (hN4222.blk.grown hS4231.grw (some_ne (by omega)))
 have k4234 := ((k4226.grown0 hN4222.grw).grown hS4231.grw (some_ne (by omega)))
 refine wpo_call (vs := [.agg #[.int .i64 k, .int .i64 l.s, .int .i64 l.v, .int .i64 0, .int .i64 0, .slice (some ⟨B4220, 0, none⟩) 4 4, .slice (some ⟨B4201, 0, none⟩) 0 0, .int .i64 to]]) gf_67 (args_cons rfl args_nil) rfl (sThingOk_c (⟨⟨k, l, 0, 0, zeros4, [], to⟩, some ⟨B4220, 0, none⟩, 4, some ⟨B4201, 0, none⟩, 0⟩ : MTh) _ (rows_sl wide_rt k4233) (rows_sl wide_int k4234) (by first | omega | exact Nat.le_of_ble_eq_true rfl | (simp only [List.length_nil, List.length_cons, List.length_append, List.length_replicate]; omega)) (by first | omega | exact Nat.le_of_ble_eq_true rfl | (simp only [List.length_nil, List.length_cons, List.length_append, List.length_replicate]; omega))) ?_
 rintro _ w4235 ⟨rfl, hg4236⟩
 have hb4237 := low0 hb4232 hg4236
 refine wpo_not (b' := !thingOk (⟨k, l, 0, 0, zeros4, [], to⟩ : Th)) rfl rfl rfl ?_
 refine wpo_nil ?_
 refine wpf_condf rfl (not_of_t hlit) ?_
 refine wpf_skip ?_
 refine thn_n ?_
 refine wpf_seq_region ?_
 have k4238 := (hS4231.blk.grown0 hg4236)
 refine wpo_loadn (vs := [.int .i64 k, .int .i64 l.s, .int .i64 l.v, .int .i64 0, .int .i64 0, .slice (some ⟨B4220, 0, none⟩) 4 4, .slice (some ⟨B4201, 0, none⟩) 0 0, .int .i64 to]) rt_45 rfl rfl (k4238.rangeL 0 8 rfl) rfl ?_
 have k4239 := (((k4224.grown0 hN4222.grw).grown hS4231.grw (some_ne (by omega))).grown0 hg4236)
 refine wpo_storen (vs := [.int .i64 k, .int .i64 l.s, .int .i64 l.v, .int .i64 0, .int .i64 0, .slice (some ⟨B4220, 0, none⟩) 4 4, .slice (some ⟨B4201, 0, none⟩) 0 0, .int .i64 to]) (cs' := #[.int .i64 k, .int .i64 l.s, .int .i64 l.v, .int .i64 0, .int .i64 0, .slice (some ⟨B4220, 0, none⟩) 4 4, .slice (some ⟨B4201, 0, none⟩) 0 0, .int .i64 to]) rt_45 rfl rfl rfl (by simp [Value.oneCell']) k4239 (Nat.le_of_ble_eq_true rfl) rfl ?_
 intro w4240 hS4241
 have hb4242 := low1 hb4237 hS4241.grw (by omega)
 refine wpo_assign (v := .bool true) rfl rfl ?_
 refine wpo_nil ?_
 refine wpf_ret ?_
 have k4243 := ((k4233.grown0 hg4236).grown hS4241.grw (some_ne (by omega)))
 have k4244 := ((k4234.grown0 hg4236).grown hS4241.grw (some_ne (by omega)))
 refine ⟨.tuple #[.agg #[.int .i64 k, .int .i64 l.s, .int .i64 l.v, .int .i64 0, .int .i64 0, .slice (some ⟨B4220, 0, none⟩) 4 4, .slice (some ⟨B4201, 0, none⟩) 0 0, .int .i64 to], .bool true], resCT rfl (resCell_mk (vs := [.int .i64 k, .int .i64 l.s, .int .i64 l.v, .int .i64 0, .int .i64 0, .slice (some ⟨B4220, 0, none⟩) 4 4, .slice (some ⟨B4201, 0, none⟩) 0 0, .int .i64 to]) rt_45 rfl rfl (hS4241.blk.rangeL 0 8 rfl)) rfl, B4220, 4, B4201, 0, rfl, hlB4220, (Own.rows wide_rt k4243 (by decide)), hlB4201, (Own.rows wide_int k4244 (by decide)), (Nat.ne_of_gt lt_B4201_B4220), hb4242⟩

theorem sThingNew_yf (k to : Int) (l : Lab) (hk : ((decide (k = 2)) || (decide (k = 3))) = true) (hok : newOk k l to = false) (w : World) : CallsR Try.prog 23 #[.int .i64 k, .agg #[.int .i64 l.s, .int .i64 l.v], .int .i64 to] w (fun v w' => v = .tuple #[.agg #[.int .i64 0, .int .i64 0, .int .i64 0, .int .i64 0, .int .i64 0, .slice none 0 0, .slice none 0 0, .int .i64 0], .bool false] ∧ w.grownBy w' none) := by
 refine calls_of_wpf (n := 24) Try.func23 rfl Try.ntmps23 rfl ?_
 have hb0 := World.grownBy.refl w none
 have hlit : thingOk (⟨k, l, 0, 0, zeros4, [], to⟩ : Th) = false := (newOk_y hk).symm.trans hok
 refine wpf_seq_region ?_
 refine wpo_box (v := .agg #[.int .i64 l.s, .int .i64 l.v]) (cs := #[.int .i64 l.s, .int .i64 l.v]) rfl rfl rfl ?_
 intro B4245 w4246 hN4247
 have hlB4245 := hN_ge hN4247 hb0
 have hb4248 := low0 hb0 hN4247.grw
 refine wpo_alloc (cs := #[.int .i64 0, .int .i64 0, .int .i64 0, .int .i64 0, .int .i64 0, .slice none 0 0, .slice none 0 0, .int .i64 0]) zt_45 rfl rfl ?_
 intro B4249 w4250 hN4251
 have hlB4249 := hN_ge hN4251 hb4248
 have lt_B4245_B4249 := hN_gtl hN4251 (hN4247.blk).lt
 have hb4252 := low0 hb4248 hN4251.grw
 refine wpo_assign (v := .bool false) rfl rfl ?_
 refine wpo_nil ?_
 refine wpf_seq_region ?_
 refine wpo_move (v := .int .i64 k) rfl rfl ?_
 have k4253 := (hN4247.blk.grown0 hN4251.grw)
 refine wpo_loadn (vs := [.int .i64 l.s, .int .i64 l.v]) rt_40 rfl rfl (k4253.rangeL 0 2 rfl) rfl ?_
 refine wpo_buildSlice (ps := []) (e := 29) (cs := (([] : List Rt).flatMap Rt.cells).toArray) parts_nil (fun _ => by kernel_rfl) rfl ?_
 intro B4254 w4255 hN4256
 have hlB4254 := hN_ge hN4256 hb4252
 have lt_B4245_B4254 := hN_gtl hN4256 (k4253).lt
 have lt_B4249_B4254 := hN_gtl hN4256 (hN4251.blk).lt
 have hb4257 := low0 hb4252 hN4256.grw
 refine wpo_buildSlice (ps := []) (e := 3) (cs := (([] : List Int).flatMap icell).toArray) parts_nil (fun _ => by kernel_rfl) rfl ?_
 intro B4258 w4259 hN4260
 have hlB4258 := hN_ge hN4260 hb4257
 have k4261 := (k4253.grown0 hN4256.grw)
 have lt_B4245_B4258 := hN_gtl hN4260 (k4261).lt
 have k4262 := (hN4251.blk.grown0 hN4256.grw)
 have lt_B4249_B4258 := hN_gtl hN4260 (k4262).lt
 have lt_B4254_B4258 := hN_gtl hN4260 (hN4256.blk).lt
 have hb4263 := low0 hb4257 hN4260.grw
 refine wpo_move (v := .int .i64 to) rfl rfl ?_
 refine wpo_build (ps := [(0, .int .i64 k), (1, .agg #[.int .i64 l.s, .int .i64 l.v]), (4, .slice (some ⟨B4254, 0, none⟩) 0 0), (5, .slice (some ⟨B4258, 0, none⟩) 0 0), (6, .int .i64 to)]) (v := .agg #[.int .i64 k, .int .i64 l.s, .int .i64 l.v, .int .i64 0, .int .i64 0, .slice (some ⟨B4254, 0, none⟩) 0 0, .slice (some ⟨B4258, 0, none⟩) 0 0, .int .i64 to]) (parts_cons rfl (parts_cons rfl (parts_cons rfl (parts_cons rfl (parts_cons rfl parts_nil))))) (by kernel_rfl) rfl ?_
 refine wpo_alloc (cs := #[.int .i64 0, .int .i64 0, .int .i64 0, .int .i64 0, .int .i64 0, .slice none 0 0, .slice none 0 0, .int .i64 0]) zt_45 rfl rfl ?_
 intro B4264 w4265 hN4266
 have hlB4264 := hN_ge hN4266 hb4263
 have k4267 := (k4261.grown0 hN4260.grw)
 have lt_B4245_B4264 := hN_gtl hN4266 (k4267).lt
 have k4268 := (k4262.grown0 hN4260.grw)
 have lt_B4249_B4264 := hN_gtl hN4266 (k4268).lt
 have k4269 := (hN4256.blk.grown0 hN4260.grw)
 have lt_B4254_B4264 := hN_gtl hN4266 (k4269).lt
 have lt_B4258_B4264 := hN_gtl hN4266 (hN4260.blk).lt
 have hb4270 := low0 hb4263 hN4266.grw
 refine wpo_storen (vs := [.int .i64 k, .int .i64 l.s, .int .i64 l.v, .int .i64 0, .int .i64 0, .slice (some ⟨B4254, 0, none⟩) 0 0, .slice (some ⟨B4258, 0, none⟩) 0 0, .int .i64 to]) (cs' := #[.int .i64 k, .int .i64 l.s, .int .i64 l.v, .int .i64 0, .int .i64 0, .slice (some ⟨B4254, 0, none⟩) 0 0, .slice (some ⟨B4258, 0, none⟩) 0 0, .int .i64 to]) rt_45 rfl rfl rfl (by simp [Value.oneCell']) hN4266.blk (Nat.le_of_ble_eq_true rfl) rfl ?_
 intro w4271 hS4272
 have hb4273 := low1 hb4270 hS4272.grw (by omega)
 refine wpo_nil ?_
 refine wpf_seq ?_
 refine wpf_seq_region ?_
 refine wpo_move (v := .int .i64 k) rfl rfl ?_
 refine wpo_call (vs := [.int .i64 k]) gf_66 (args_cons rfl args_nil) rfl (l3Slots_c k _) ?_
 rintro _ w4274 ⟨rfl, hg4275⟩
 have hb4276 := low0 hb4273 hg4275
 refine wpo_nil ?_
 refine wpf_condt rfl hk ?_
 refine wpf_region ?_
 refine wpo_make (g := Rt.cells) (z := Rt.zero) (c := 4) mk_27 rfl wide_rt (by omega) rfl rfl (by omega) (by omega) rfl ?_
 intro B4277 w4278 hN4279
 have hlB4277 := hN_ge hN4279 hb4276
 have k4280 := (((k4267.grown0 hN4266.grw).grown hS4272.grw (some_ne (by omega))).grown0 hg4275)
 have lt_B4245_B4277 := hN_gtl hN4279 (k4280).lt
 have k4281 := (((k4268.grown0 hN4266.grw).grown hS4272.grw (some_ne (by omega))).grown0 hg4275)
 have lt_B4249_B4277 := hN_gtl hN4279 (k4281).lt
 have k4282 := (((k4269.grown0 hN4266.grw).grown hS4272.grw (some_ne (by omega))).grown0 hg4275)
 have lt_B4254_B4277 := hN_gtl hN4279 (k4282).lt
 have k4283 := (((hN4260.blk.grown0 hN4266.grw).grown hS4272.grw (some_ne (by omega))).grown0 hg4275)
 have lt_B4258_B4277 := hN_gtl hN4279 (k4283).lt
 have k4284 := (hS4272.blk.grown0 hg4275)
 have lt_B4264_B4277 := hN_gtl hN4279 (k4284).lt
 have hb4285 := low0 hb4276 hN4279.grw
 refine wpo_fieldAddr (o' := 5) fo_45_4 rfl rfl rfl ?_
 have k4286 := (k4284.grown0 hN4279.grw)
 refine wpo_store1 (v := .slice (some ⟨B4277, 0, none⟩) 4 4) (cs' := #[.int .i64 k, .int .i64 l.s, .int .i64 l.v, .int .i64 0, .int .i64 0, .slice (some ⟨B4277, 0, none⟩) 4 4, .slice (some ⟨B4258, 0, none⟩) 0 0, .int .i64 to]) ot_27 rfl rfl rfl k4286 (Nat.le_of_ble_eq_true rfl) rfl ?_
 intro w4287 hS4288
 have hb4289 := low1 hb4285 hS4288.grw (by omega)
 refine wpo_nil ?_
 refine thn_n ?_
 refine wpf_seq ?_
 refine wpf_seq_region ?_
 refine wpo_loadn (vs := [.int .i64 k, .int .i64 l.s, .int .i64 l.v, .int .i64 0, .int .i64 0, .slice (some ⟨B4277, 0, none⟩) 4 4, .slice (some ⟨B4258, 0, none⟩) 0 0, .int .i64 to]) rt_45 rfl rfl (hS4288.blk.rangeL 0 8 rfl) rfl ?_
 have k4290 := (hN4279.blk.grown hS4288.grw (some_ne (by omega)))
 have k4291 := ((k4283.grown0 hN4279.grw).grown hS4288.grw (some_ne (by omega)))
 refine wpo_call (vs := [.agg #[.int .i64 k, .int .i64 l.s, .int .i64 l.v, .int .i64 0, .int .i64 0, .slice (some ⟨B4277, 0, none⟩) 4 4, .slice (some ⟨B4258, 0, none⟩) 0 0, .int .i64 to]]) gf_67 (args_cons rfl args_nil) rfl (sThingOk_c (⟨⟨k, l, 0, 0, zeros4, [], to⟩, some ⟨B4277, 0, none⟩, 4, some ⟨B4258, 0, none⟩, 0⟩ : MTh) _ (rows_sl wide_rt k4290) (rows_sl wide_int k4291) (by first | omega | exact Nat.le_of_ble_eq_true rfl | (simp only [List.length_nil, List.length_cons, List.length_append, List.length_replicate]; omega)) (by first | omega | exact Nat.le_of_ble_eq_true rfl | (simp only [List.length_nil, List.length_cons, List.length_append, List.length_replicate]; omega))) ?_
 rintro _ w4292 ⟨rfl, hg4293⟩
 have hb4294 := low0 hb4289 hg4293
 refine wpo_not (b' := !thingOk (⟨k, l, 0, 0, zeros4, [], to⟩ : Th)) rfl rfl rfl ?_
 refine wpo_nil ?_
 refine wpf_condt rfl (not_of_f hlit) ?_
 refine wpf_seq_region ?_
 refine wpo_build (ps := []) (v := .agg #[.int .i64 0, .int .i64 0, .int .i64 0, .int .i64 0, .int .i64 0, .slice none 0 0, .slice none 0 0, .int .i64 0]) parts_nil (by kernel_rfl) rfl ?_
 have k4295 := (((k4281.grown0 hN4279.grw).grown hS4288.grw (some_ne (by omega))).grown0 hg4293)
 refine wpo_storen (vs := [.int .i64 0, .int .i64 0, .int .i64 0, .int .i64 0, .int .i64 0, .slice none 0 0, .slice none 0 0, .int .i64 0]) (cs' := #[.int .i64 0, .int .i64 0, .int .i64 0, .int .i64 0, .int .i64 0, .slice none 0 0, .slice none 0 0, .int .i64 0]) rt_45 rfl rfl rfl (by simp [Value.oneCell']) k4295 (Nat.le_of_ble_eq_true rfl) rfl ?_
 intro w4296 hS4297
 have hb4298 := low1 hb4294 hS4297.grw (by omega)
 refine wpo_assign (v := .bool false) rfl rfl ?_
 refine wpo_nil ?_
 refine wpf_ret ?_
 refine thn_r ?_
 refine ⟨.tuple #[.agg #[.int .i64 0, .int .i64 0, .int .i64 0, .int .i64 0, .int .i64 0, .slice none 0 0, .slice none 0 0, .int .i64 0], .bool false], resCT rfl (resCell_mk (vs := [.int .i64 0, .int .i64 0, .int .i64 0, .int .i64 0, .int .i64 0, .slice none 0 0, .slice none 0 0, .int .i64 0]) rt_45 rfl rfl (hS4297.blk.rangeL 0 8 rfl)) rfl, rfl, hb4298⟩

theorem sThingNew_nt (k to : Int) (l : Lab) (hk : ((decide (k = 2)) || (decide (k = 3))) = false) (hok : newOk k l to = true) (w : World) : CallsR Try.prog 23 #[.int .i64 k, .agg #[.int .i64 l.s, .int .i64 l.v], .int .i64 to] w (fun v w' => ∃ (S sc Q qc : Nat), v = .tuple #[.agg #[.int .i64 k, .int .i64 l.s, .int .i64 l.v, .int .i64 0, .int .i64 0, .slice (some ⟨S, 0, none⟩) 0 sc, .slice (some ⟨Q, 0, none⟩) 0 qc, .int .i64 to], .bool true] ∧ w.heap.size ≤ S ∧ Dw.Own w' S 29 5 sc 0 (([] : List Rt).flatMap Rt.cells) ∧ w.heap.size ≤ Q ∧ Dw.Own w' Q 3 1 qc 0 (([] : List Int).flatMap icell) ∧ S ≠ Q ∧ w.grownBy w' none) := by
 refine calls_of_wpf (n := 24) Try.func23 rfl Try.ntmps23 rfl ?_
 have hb0 := World.grownBy.refl w none
 have hlit : thingOk (⟨k, l, 0, 0, [], [], to⟩ : Th) = true := (newOk_n hk).symm.trans hok
 have h4299 : decide (k = 2) = false := or_l hk
 have h4300 : decide (k = 3) = false := or_r hk
 refine wpf_seq_region ?_
 refine wpo_box (v := .agg #[.int .i64 l.s, .int .i64 l.v]) (cs := #[.int .i64 l.s, .int .i64 l.v]) rfl rfl rfl ?_
 intro B4301 w4302 hN4303
 have hlB4301 := hN_ge hN4303 hb0
 have hb4304 := low0 hb0 hN4303.grw
 refine wpo_alloc (cs := #[.int .i64 0, .int .i64 0, .int .i64 0, .int .i64 0, .int .i64 0, .slice none 0 0, .slice none 0 0, .int .i64 0]) zt_45 rfl rfl ?_
 intro B4305 w4306 hN4307
 have hlB4305 := hN_ge hN4307 hb4304
 have lt_B4301_B4305 := hN_gtl hN4307 (hN4303.blk).lt
 have hb4308 := low0 hb4304 hN4307.grw
 refine wpo_assign (v := .bool false) rfl rfl ?_
 refine wpo_nil ?_
 refine wpf_seq_region ?_
 refine wpo_move (v := .int .i64 k) rfl rfl ?_
 have k4309 := (hN4303.blk.grown0 hN4307.grw)
 refine wpo_loadn (vs := [.int .i64 l.s, .int .i64 l.v]) rt_40 rfl rfl (k4309.rangeL 0 2 rfl) rfl ?_
 refine wpo_buildSlice (ps := []) (e := 29) (cs := (([] : List Rt).flatMap Rt.cells).toArray) parts_nil (fun _ => by kernel_rfl) rfl ?_
 intro B4310 w4311 hN4312
 have hlB4310 := hN_ge hN4312 hb4308
 have lt_B4301_B4310 := hN_gtl hN4312 (k4309).lt
 have lt_B4305_B4310 := hN_gtl hN4312 (hN4307.blk).lt
 have hb4313 := low0 hb4308 hN4312.grw
 refine wpo_buildSlice (ps := []) (e := 3) (cs := (([] : List Int).flatMap icell).toArray) parts_nil (fun _ => by kernel_rfl) rfl ?_
 intro B4314 w4315 hN4316
 have hlB4314 := hN_ge hN4316 hb4313
 have k4317 := (k4309.grown0 hN4312.grw)
 have lt_B4301_B4314 := hN_gtl hN4316 (k4317).lt
 have k4318 := (hN4307.blk.grown0 hN4312.grw)
 have lt_B4305_B4314 := hN_gtl hN4316 (k4318).lt
 have lt_B4310_B4314 := hN_gtl hN4316 (hN4312.blk).lt
 have hb4319 := low0 hb4313 hN4316.grw
 refine wpo_move (v := .int .i64 to) rfl rfl ?_
 refine wpo_build (ps := [(0, .int .i64 k), (1, .agg #[.int .i64 l.s, .int .i64 l.v]), (4, .slice (some ⟨B4310, 0, none⟩) 0 0), (5, .slice (some ⟨B4314, 0, none⟩) 0 0), (6, .int .i64 to)]) (v := .agg #[.int .i64 k, .int .i64 l.s, .int .i64 l.v, .int .i64 0, .int .i64 0, .slice (some ⟨B4310, 0, none⟩) 0 0, .slice (some ⟨B4314, 0, none⟩) 0 0, .int .i64 to]) (parts_cons rfl (parts_cons rfl (parts_cons rfl (parts_cons rfl (parts_cons rfl parts_nil))))) (by kernel_rfl) rfl ?_
 refine wpo_alloc (cs := #[.int .i64 0, .int .i64 0, .int .i64 0, .int .i64 0, .int .i64 0, .slice none 0 0, .slice none 0 0, .int .i64 0]) zt_45 rfl rfl ?_
 intro B4320 w4321 hN4322
 have hlB4320 := hN_ge hN4322 hb4319
 have k4323 := (k4317.grown0 hN4316.grw)
 have lt_B4301_B4320 := hN_gtl hN4322 (k4323).lt
 have k4324 := (k4318.grown0 hN4316.grw)
 have lt_B4305_B4320 := hN_gtl hN4322 (k4324).lt
 have k4325 := (hN4312.blk.grown0 hN4316.grw)
 have lt_B4310_B4320 := hN_gtl hN4322 (k4325).lt
 have lt_B4314_B4320 := hN_gtl hN4322 (hN4316.blk).lt
 have hb4326 := low0 hb4319 hN4322.grw
 refine wpo_storen (vs := [.int .i64 k, .int .i64 l.s, .int .i64 l.v, .int .i64 0, .int .i64 0, .slice (some ⟨B4310, 0, none⟩) 0 0, .slice (some ⟨B4314, 0, none⟩) 0 0, .int .i64 to]) (cs' := #[.int .i64 k, .int .i64 l.s, .int .i64 l.v, .int .i64 0, .int .i64 0, .slice (some ⟨B4310, 0, none⟩) 0 0, .slice (some ⟨B4314, 0, none⟩) 0 0, .int .i64 to]) rt_45 rfl rfl rfl (by simp [Value.oneCell']) hN4322.blk (Nat.le_of_ble_eq_true rfl) rfl ?_
 intro w4327 hS4328
 have hb4329 := low1 hb4326 hS4328.grw (by omega)
 refine wpo_nil ?_
 refine wpf_seq ?_
 refine wpf_seq_region ?_
 refine wpo_move (v := .int .i64 k) rfl rfl ?_
 refine wpo_call (vs := [.int .i64 k]) gf_66 (args_cons rfl args_nil) rfl (l3Slots_c k _) ?_
 rintro _ w4330 ⟨rfl, hg4331⟩
 have hb4332 := low0 hb4329 hg4331
 refine wpo_nil ?_
 refine wpf_condf rfl hk ?_
 refine wpf_skip ?_
 refine thn_n ?_
 refine wpf_seq ?_
 refine wpf_seq_region ?_
 have k4333 := (hS4328.blk.grown0 hg4331)
 refine wpo_loadn (vs := [.int .i64 k, .int .i64 l.s, .int .i64 l.v, .int .i64 0, .int .i64 0, .slice (some ⟨B4310, 0, none⟩) 0 0, .slice (some ⟨B4314, 0, none⟩) 0 0, .int .i64 to]) rt_45 rfl rfl (k4333.rangeL 0 8 rfl) rfl ?_
 have k4334 := (((k4325.grown0 hN4322.grw).grown hS4328.grw (some_ne (by omega))).grown0 hg4331)
 have k4335 := (((hN4316.blk.grown0 hN4322.grw).grown hS4328.grw (some_ne (by omega))).grown0 hg4331)
 refine wpo_call (vs := [.agg #[.int .i64 k, .int .i64 l.s, .int .i64 l.v, .int .i64 0, .int .i64 0, .slice (some ⟨B4310, 0, none⟩) 0 0, .slice (some ⟨B4314, 0, none⟩) 0 0, .int .i64 to]]) gf_67 (args_cons rfl args_nil) rfl (sThingOk_c (⟨⟨k, l, 0, 0, [], [], to⟩, some ⟨B4310, 0, none⟩, 0, some ⟨B4314, 0, none⟩, 0⟩ : MTh) _ (rows_sl wide_rt k4334) (rows_sl wide_int k4335) (by first | omega | exact Nat.le_of_ble_eq_true rfl | (simp only [List.length_nil, List.length_cons, List.length_append, List.length_replicate]; omega)) (by first | omega | exact Nat.le_of_ble_eq_true rfl | (simp only [List.length_nil, List.length_cons, List.length_append, List.length_replicate]; omega))) ?_
 rintro _ w4336 ⟨rfl, hg4337⟩
 have hb4338 := low0 hb4332 hg4337
 refine wpo_not (b' := !thingOk (⟨k, l, 0, 0, [], [], to⟩ : Th)) rfl rfl rfl ?_
 refine wpo_nil ?_
 refine wpf_condf rfl (not_of_t hlit) ?_
 refine wpf_skip ?_
 refine thn_n ?_
 refine wpf_seq_region ?_
 have k4339 := (k4333.grown0 hg4337)
 refine wpo_loadn (vs := [.int .i64 k, .int .i64 l.s, .int .i64 l.v, .int .i64 0, .int .i64 0, .slice (some ⟨B4310, 0, none⟩) 0 0, .slice (some ⟨B4314, 0, none⟩) 0 0, .int .i64 to]) rt_45 rfl rfl (k4339.rangeL 0 8 rfl) rfl ?_
 have k4340 := ((((k4324.grown0 hN4322.grw).grown hS4328.grw (some_ne (by omega))).grown0 hg4331).grown0 hg4337)
 refine wpo_storen (vs := [.int .i64 k, .int .i64 l.s, .int .i64 l.v, .int .i64 0, .int .i64 0, .slice (some ⟨B4310, 0, none⟩) 0 0, .slice (some ⟨B4314, 0, none⟩) 0 0, .int .i64 to]) (cs' := #[.int .i64 k, .int .i64 l.s, .int .i64 l.v, .int .i64 0, .int .i64 0, .slice (some ⟨B4310, 0, none⟩) 0 0, .slice (some ⟨B4314, 0, none⟩) 0 0, .int .i64 to]) rt_45 rfl rfl rfl (by simp [Value.oneCell']) k4340 (Nat.le_of_ble_eq_true rfl) rfl ?_
 intro w4341 hS4342
 have hb4343 := low1 hb4338 hS4342.grw (by omega)
 refine wpo_assign (v := .bool true) rfl rfl ?_
 refine wpo_nil ?_
 refine wpf_ret ?_
 have k4344 := ((k4334.grown0 hg4337).grown hS4342.grw (some_ne (by omega)))
 have k4345 := ((k4335.grown0 hg4337).grown hS4342.grw (some_ne (by omega)))
 refine ⟨.tuple #[.agg #[.int .i64 k, .int .i64 l.s, .int .i64 l.v, .int .i64 0, .int .i64 0, .slice (some ⟨B4310, 0, none⟩) 0 0, .slice (some ⟨B4314, 0, none⟩) 0 0, .int .i64 to], .bool true], resCT rfl (resCell_mk (vs := [.int .i64 k, .int .i64 l.s, .int .i64 l.v, .int .i64 0, .int .i64 0, .slice (some ⟨B4310, 0, none⟩) 0 0, .slice (some ⟨B4314, 0, none⟩) 0 0, .int .i64 to]) rt_45 rfl rfl (hS4342.blk.rangeL 0 8 rfl)) rfl, B4310, 0, B4314, 0, rfl, hlB4310, (Own.rows wide_rt k4344 (by decide)), hlB4314, (Own.rows wide_int k4345 (by decide)), (Nat.ne_of_lt lt_B4310_B4314), hb4343⟩

theorem sThingNew_nf (k to : Int) (l : Lab) (hk : ((decide (k = 2)) || (decide (k = 3))) = false) (hok : newOk k l to = false) (w : World) : CallsR Try.prog 23 #[.int .i64 k, .agg #[.int .i64 l.s, .int .i64 l.v], .int .i64 to] w (fun v w' => v = .tuple #[.agg #[.int .i64 0, .int .i64 0, .int .i64 0, .int .i64 0, .int .i64 0, .slice none 0 0, .slice none 0 0, .int .i64 0], .bool false] ∧ w.grownBy w' none) := by
 refine calls_of_wpf (n := 24) Try.func23 rfl Try.ntmps23 rfl ?_
 have hb0 := World.grownBy.refl w none
 have hlit : thingOk (⟨k, l, 0, 0, [], [], to⟩ : Th) = false := (newOk_n hk).symm.trans hok
 have h4346 : decide (k = 2) = false := or_l hk
 have h4347 : decide (k = 3) = false := or_r hk
 refine wpf_seq_region ?_
 refine wpo_box (v := .agg #[.int .i64 l.s, .int .i64 l.v]) (cs := #[.int .i64 l.s, .int .i64 l.v]) rfl rfl rfl ?_
 intro B4348 w4349 hN4350
 have hlB4348 := hN_ge hN4350 hb0
 have hb4351 := low0 hb0 hN4350.grw
 refine wpo_alloc (cs := #[.int .i64 0, .int .i64 0, .int .i64 0, .int .i64 0, .int .i64 0, .slice none 0 0, .slice none 0 0, .int .i64 0]) zt_45 rfl rfl ?_
 intro B4352 w4353 hN4354
 have hlB4352 := hN_ge hN4354 hb4351
 have lt_B4348_B4352 := hN_gtl hN4354 (hN4350.blk).lt
 have hb4355 := low0 hb4351 hN4354.grw
 refine wpo_assign (v := .bool false) rfl rfl ?_
 refine wpo_nil ?_
 refine wpf_seq_region ?_
 refine wpo_move (v := .int .i64 k) rfl rfl ?_
 have k4356 := (hN4350.blk.grown0 hN4354.grw)
 refine wpo_loadn (vs := [.int .i64 l.s, .int .i64 l.v]) rt_40 rfl rfl (k4356.rangeL 0 2 rfl) rfl ?_
 refine wpo_buildSlice (ps := []) (e := 29) (cs := (([] : List Rt).flatMap Rt.cells).toArray) parts_nil (fun _ => by kernel_rfl) rfl ?_
 intro B4357 w4358 hN4359
 have hlB4357 := hN_ge hN4359 hb4355
 have lt_B4348_B4357 := hN_gtl hN4359 (k4356).lt
 have lt_B4352_B4357 := hN_gtl hN4359 (hN4354.blk).lt
 have hb4360 := low0 hb4355 hN4359.grw
 refine wpo_buildSlice (ps := []) (e := 3) (cs := (([] : List Int).flatMap icell).toArray) parts_nil (fun _ => by kernel_rfl) rfl ?_
 intro B4361 w4362 hN4363
 have hlB4361 := hN_ge hN4363 hb4360
 have k4364 := (k4356.grown0 hN4359.grw)
 have lt_B4348_B4361 := hN_gtl hN4363 (k4364).lt
 have k4365 := (hN4354.blk.grown0 hN4359.grw)
 have lt_B4352_B4361 := hN_gtl hN4363 (k4365).lt
 have lt_B4357_B4361 := hN_gtl hN4363 (hN4359.blk).lt
 have hb4366 := low0 hb4360 hN4363.grw
 refine wpo_move (v := .int .i64 to) rfl rfl ?_
 refine wpo_build (ps := [(0, .int .i64 k), (1, .agg #[.int .i64 l.s, .int .i64 l.v]), (4, .slice (some ⟨B4357, 0, none⟩) 0 0), (5, .slice (some ⟨B4361, 0, none⟩) 0 0), (6, .int .i64 to)]) (v := .agg #[.int .i64 k, .int .i64 l.s, .int .i64 l.v, .int .i64 0, .int .i64 0, .slice (some ⟨B4357, 0, none⟩) 0 0, .slice (some ⟨B4361, 0, none⟩) 0 0, .int .i64 to]) (parts_cons rfl (parts_cons rfl (parts_cons rfl (parts_cons rfl (parts_cons rfl parts_nil))))) (by kernel_rfl) rfl ?_
 refine wpo_alloc (cs := #[.int .i64 0, .int .i64 0, .int .i64 0, .int .i64 0, .int .i64 0, .slice none 0 0, .slice none 0 0, .int .i64 0]) zt_45 rfl rfl ?_
 intro B4367 w4368 hN4369
 have hlB4367 := hN_ge hN4369 hb4366
 have k4370 := (k4364.grown0 hN4363.grw)
 have lt_B4348_B4367 := hN_gtl hN4369 (k4370).lt
 have k4371 := (k4365.grown0 hN4363.grw)
 have lt_B4352_B4367 := hN_gtl hN4369 (k4371).lt
 have k4372 := (hN4359.blk.grown0 hN4363.grw)
 have lt_B4357_B4367 := hN_gtl hN4369 (k4372).lt
 have lt_B4361_B4367 := hN_gtl hN4369 (hN4363.blk).lt
 have hb4373 := low0 hb4366 hN4369.grw
 refine wpo_storen (vs := [.int .i64 k, .int .i64 l.s, .int .i64 l.v, .int .i64 0, .int .i64 0, .slice (some ⟨B4357, 0, none⟩) 0 0, .slice (some ⟨B4361, 0, none⟩) 0 0, .int .i64 to]) (cs' := #[.int .i64 k, .int .i64 l.s, .int .i64 l.v, .int .i64 0, .int .i64 0, .slice (some ⟨B4357, 0, none⟩) 0 0, .slice (some ⟨B4361, 0, none⟩) 0 0, .int .i64 to]) rt_45 rfl rfl rfl (by simp [Value.oneCell']) hN4369.blk (Nat.le_of_ble_eq_true rfl) rfl ?_
 intro w4374 hS4375
 have hb4376 := low1 hb4373 hS4375.grw (by omega)
 refine wpo_nil ?_
 refine wpf_seq ?_
 refine wpf_seq_region ?_
 refine wpo_move (v := .int .i64 k) rfl rfl ?_
 refine wpo_call (vs := [.int .i64 k]) gf_66 (args_cons rfl args_nil) rfl (l3Slots_c k _) ?_
 rintro _ w4377 ⟨rfl, hg4378⟩
 have hb4379 := low0 hb4376 hg4378
 refine wpo_nil ?_
 refine wpf_condf rfl hk ?_
 refine wpf_skip ?_
 refine thn_n ?_
 refine wpf_seq ?_
 refine wpf_seq_region ?_
 have k4380 := (hS4375.blk.grown0 hg4378)
 refine wpo_loadn (vs := [.int .i64 k, .int .i64 l.s, .int .i64 l.v, .int .i64 0, .int .i64 0, .slice (some ⟨B4357, 0, none⟩) 0 0, .slice (some ⟨B4361, 0, none⟩) 0 0, .int .i64 to]) rt_45 rfl rfl (k4380.rangeL 0 8 rfl) rfl ?_
 have k4381 := (((k4372.grown0 hN4369.grw).grown hS4375.grw (some_ne (by omega))).grown0 hg4378)
 have k4382 := (((hN4363.blk.grown0 hN4369.grw).grown hS4375.grw (some_ne (by omega))).grown0 hg4378)
 refine wpo_call (vs := [.agg #[.int .i64 k, .int .i64 l.s, .int .i64 l.v, .int .i64 0, .int .i64 0, .slice (some ⟨B4357, 0, none⟩) 0 0, .slice (some ⟨B4361, 0, none⟩) 0 0, .int .i64 to]]) gf_67 (args_cons rfl args_nil) rfl (sThingOk_c (⟨⟨k, l, 0, 0, [], [], to⟩, some ⟨B4357, 0, none⟩, 0, some ⟨B4361, 0, none⟩, 0⟩ : MTh) _ (rows_sl wide_rt k4381) (rows_sl wide_int k4382) (by first | omega | exact Nat.le_of_ble_eq_true rfl | (simp only [List.length_nil, List.length_cons, List.length_append, List.length_replicate]; omega)) (by first | omega | exact Nat.le_of_ble_eq_true rfl | (simp only [List.length_nil, List.length_cons, List.length_append, List.length_replicate]; omega))) ?_
 rintro _ w4383 ⟨rfl, hg4384⟩
 have hb4385 := low0 hb4379 hg4384
 refine wpo_not (b' := !thingOk (⟨k, l, 0, 0, [], [], to⟩ : Th)) rfl rfl rfl ?_
 refine wpo_nil ?_
 refine wpf_condt rfl (not_of_f hlit) ?_
 refine wpf_seq_region ?_
 refine wpo_build (ps := []) (v := .agg #[.int .i64 0, .int .i64 0, .int .i64 0, .int .i64 0, .int .i64 0, .slice none 0 0, .slice none 0 0, .int .i64 0]) parts_nil (by kernel_rfl) rfl ?_
 have k4386 := ((((k4371.grown0 hN4369.grw).grown hS4375.grw (some_ne (by omega))).grown0 hg4378).grown0 hg4384)
 refine wpo_storen (vs := [.int .i64 0, .int .i64 0, .int .i64 0, .int .i64 0, .int .i64 0, .slice none 0 0, .slice none 0 0, .int .i64 0]) (cs' := #[.int .i64 0, .int .i64 0, .int .i64 0, .int .i64 0, .int .i64 0, .slice none 0 0, .slice none 0 0, .int .i64 0]) rt_45 rfl rfl rfl (by simp [Value.oneCell']) k4386 (Nat.le_of_ble_eq_true rfl) rfl ?_
 intro w4387 hS4388
 have hb4389 := low1 hb4385 hS4388.grw (by omega)
 refine wpo_assign (v := .bool false) rfl rfl ?_
 refine wpo_nil ?_
 refine wpf_ret ?_
 refine thn_r ?_
 refine ⟨.tuple #[.agg #[.int .i64 0, .int .i64 0, .int .i64 0, .int .i64 0, .int .i64 0, .slice none 0 0, .slice none 0 0, .int .i64 0], .bool false], resCT rfl (resCell_mk (vs := [.int .i64 0, .int .i64 0, .int .i64 0, .int .i64 0, .int .i64 0, .slice none 0 0, .slice none 0 0, .int .i64 0]) rt_45 rfl rfl (hS4388.blk.rangeL 0 8 rfl)) rfl, rfl, hb4389⟩

theorem eqLabel_c (a b : Lab) (w : World) : CallsR Try.prog 76 #[.agg #[.int .i64 a.s, .int .i64 a.v], .agg #[.int .i64 b.s, .int .i64 b.v]] w (fun v w' => v = .bool (decide (a = b)) ∧ w.grownBy w' none) := by
 refine calls_of_wpf (n := 15) Try.func76 rfl Try.ntmps76 rfl ?_
 have hb0 := World.grownBy.refl w none
 refine wpf_seq_region ?_
 refine wpo_box (v := .agg #[.int .i64 a.s, .int .i64 a.v]) (cs := #[.int .i64 a.s, .int .i64 a.v]) rfl rfl rfl ?_
 intro B4390 w4391 hN4392
 have hlB4390 := hN_ge hN4392 hb0
 have hb4393 := low0 hb0 hN4392.grw
 refine wpo_box (v := .agg #[.int .i64 b.s, .int .i64 b.v]) (cs := #[.int .i64 b.s, .int .i64 b.v]) rfl rfl rfl ?_
 intro B4394 w4395 hN4396
 have hlB4394 := hN_ge hN4396 hb4393
 have lt_B4390_B4394 := hN_gtl hN4396 (hN4392.blk).lt
 have hb4397 := low0 hb4393 hN4396.grw
 refine wpo_assign (v := .bool false) rfl rfl ?_
 refine wpo_nil ?_
 refine wpf_seq ?_
 refine wpf_seq_region ?_
 refine wpo_fieldAddr (o' := 0) fo_40_0 rfl rfl rfl ?_
 have k4398 := (hN4392.blk.grown0 hN4396.grw)
 refine wpo_load1 (v := .int .i64 a.s) ot_3 rfl (k4398.cell rfl) rfl ?_
 refine wpo_fieldAddr (o' := 0) fo_40_0 rfl rfl rfl ?_
 refine wpo_load1 (v := .int .i64 b.s) ot_3 rfl (hN4396.blk.cell rfl) rfl ?_
 refine wpo_neq (q := !(decide (a.s = b.s))) rfl rfl rfl rfl ?_
 refine wpo_nil ?_
 refine wpf_cond rfl (fun h4399 => ?_) (fun h4399 => ?_)
 ·
  have h4400 := nt_t h4399
  have h4401 := of_decide_eq_false h4400
  refine wpf_seq_region ?_
  refine wpo_assign (v := .bool false) rfl rfl ?_
  refine wpo_nil ?_
  refine wpf_ret ?_
  refine thn_r ?_
  refine ⟨.bool false, res1 rfl rfl, ?_, hb4397⟩
  obtain ⟨a1, a2⟩ := a
  obtain ⟨b1, b2⟩ := b
  simp_all
 ·
  have h4402 := nt_f h4399
  have h4403 := of_decide_eq_true h4402
  refine wpf_skip ?_
  refine thn_n ?_
  refine wpf_seq ?_
  refine wpf_seq_region ?_
  refine wpo_fieldAddr (o' := 1) fo_40_1 rfl rfl rfl ?_
  refine wpo_load1 (v := .int .i64 a.v) ot_3 rfl (k4398.cell rfl) rfl ?_
  refine wpo_fieldAddr (o' := 1) fo_40_1 rfl rfl rfl ?_
  refine wpo_load1 (v := .int .i64 b.v) ot_3 rfl (hN4396.blk.cell rfl) rfl ?_
  refine wpo_neq (q := !(decide (a.v = b.v))) rfl rfl rfl rfl ?_
  refine wpo_nil ?_
  refine wpf_cond rfl (fun h4404 => ?_) (fun h4404 => ?_)
  ·
   have h4405 := nt_t h4404
   have h4406 := of_decide_eq_false h4405
   refine wpf_seq_region ?_
   refine wpo_assign (v := .bool false) rfl rfl ?_
   refine wpo_nil ?_
   refine wpf_ret ?_
   refine thn_r ?_
   refine ⟨.bool false, res1 rfl rfl, ?_, hb4397⟩
   obtain ⟨a1, a2⟩ := a
   obtain ⟨b1, b2⟩ := b
   simp_all
  ·
   have h4407 := nt_f h4404
   have h4408 := of_decide_eq_true h4407
   refine wpf_skip ?_
   refine thn_n ?_
   refine wpf_seq_region ?_
   refine wpo_assign (v := .bool true) rfl rfl ?_
   refine wpo_nil ?_
   refine wpf_ret ?_
   refine ⟨.bool true, res1 rfl rfl, ?_, hb4397⟩
   obtain ⟨a1, a2⟩ := a
   obtain ⟨b1, b2⟩ := b
   simp_all

theorem eqIntS_c (w : World) (xs ys : List Int) (a b : Option Addr) (c e : Nat) (hs : SlAt w a 1 (xs.map icell)) (ht : SlAt w b 1 (ys.map icell)) (hn : xs.length ≤ 1048576) (hm : ys.length ≤ 1048576) : CallsR Try.prog 77 #[.slice a xs.length c, .slice b ys.length e] w (fun v w' => v = .bool (decide (xs = ys)) ∧ w.grownBy w' none) := by
 refine calls_of_wpf (n := 26) Try.func77 rfl Try.ntmps77 rfl ?_
 have hb0 := World.grownBy.refl w none
 refine wpf_seq_region ?_
 refine wpo_assign (v := .bool false) rfl rfl ?_
 refine wpo_nil ?_
 refine wpf_seq ?_
 refine wpf_seq_region ?_
 refine wpo_move (v := .slice a xs.length c) rfl rfl ?_
 refine wpo_len (by kernel_rfl) rfl rfl ?_
 refine wpo_move (v := .slice b ys.length e) rfl rfl ?_
 refine wpo_len (by kernel_rfl) rfl rfl ?_
 refine wpo_neq (q := !(decide ((xs.length : Int) = (ys.length : Int)))) rfl rfl rfl rfl ?_
 refine wpo_nil ?_
 refine wpf_cond rfl (fun h4409 => ?_) (fun h4409 => ?_)
 ·
  have h4410 := nt_t h4409
  have h4411 := of_decide_eq_false h4410
  refine wpf_seq_region ?_
  refine wpo_assign (v := .bool false) rfl rfl ?_
  refine wpo_nil ?_
  refine wpf_ret ?_
  refine thn_r ?_
  refine ⟨.bool false, res1 rfl rfl, ?_, hb0⟩
  exact congrArg Value.bool (decide_eq_false (fun h => by have := congrArg List.length h; omega)).symm
 ·
  have h4412 := nt_f h4409
  have h4413 := of_decide_eq_true h4412
  refine wpf_skip ?_
  refine thn_n ?_
  refine wpf_seq ?_
  refine wpf_seq_region ?_
  refine wpo_assign (v := .int .i64 0) rfl rfl ?_
  refine wpo_nil ?_
  refine wpf_block ?_
  refine wpf_loopN (fun mm f' w' => ∃ (k : Nat), mm = xs.length - k ∧ k ≤ xs.length ∧ xs.take k = ys.take k ∧ f' 5 = .int .i64 (k : Int) ∧ f' 0 = .slice a xs.length c ∧ f' 1 = .slice b ys.length e ∧ w.grownBy w' none) (xs.length - 0) ⟨0, rfl, (Nat.zero_le _), rfl, rfl, rfl, rfl, hb0⟩ ?_
  rintro mm f4414 w4415 ⟨k, hm4417, hk, ha, e4418, e4419, e4420, hb4416⟩
  refine wpf_seq ?_
  refine wpf_seq_region ?_
  refine wpo_move (v := .int .i64 (k : Int)) e4418 rfl ?_
  refine wpo_move (v := .slice a xs.length c) e4419 rfl ?_
  refine wpo_len (by kernel_rfl) rfl rfl ?_
  refine wpo_lss (q := decide ((k : Int) < (xs.length : Int))) rfl rfl rfl rfl ?_
  refine wpo_nil ?_
  refine wpf_cond rfl (fun h4421 => ?_) (fun h4421 => ?_)
  ·
   have h4422 := of_decide_eq_true h4421
   refine wpf_skip ?_
   refine thn_n ?_
   refine wpf_seq ?_
   refine wpf_block ?_
   refine wpf_seq ?_
   obtain ⟨x4455, hx4456⟩ := get_lt (l := xs) (i := k) (by omega)
   obtain ⟨b4457, q4458, o4459, ha4460, ho4461, hr4462⟩ := SlAt.at hs (map_get hx4456)
   obtain ⟨x4463, hx4464⟩ := get_lt (l := ys) (i := k) (by omega)
   obtain ⟨b4465, q4466, o4467, ha4468, ho4469, hr4470⟩ := SlAt.at ht (map_get hx4464)
   refine wpf_draw (m := 8) (vals := [(17, .slice a xs.length c), (18, .int .i64 (k : Int)), (19, .pointer (some ⟨b4457, o4459, none⟩)), (20, .int .i64 x4455), (21, .slice b ys.length e), (22, .int .i64 (k : Int)), (23, .pointer (some ⟨b4465, o4467, none⟩)), (24, .int .i64 x4463)]) (fun w' => w4415.grownBy w' none) mixed_ (by kernel_rfl) (grown_drew _) ?_ ?_
   ·
    refine yll_cons rfl (fun w4471 hi4472 => ?_) ?_
    ·
     have hb4473 := low0 hb4416 hi4472
     refine wpo_move (v := .slice a xs.length c) e4419 rfl ?_
     exact wpo_nil ⟨rfl, hi4472⟩
    refine yll_cons rfl (fun w4474 hi4475 => ?_) ?_
    ·
     have hb4476 := low0 hb4416 hi4475
     refine wpo_move (v := .int .i64 (k : Int)) e4418 rfl ?_
     exact wpo_nil ⟨rfl, hi4475⟩
    refine yll_cons rfl (fun w4477 hi4478 => ?_) ?_
    ·
     have hb4479 := low0 hb4416 hi4478
     refine wpo_indexE es_43 rfl rfl ha4460 ho4461 (by omega) (by omega) rfl ?_
     exact wpo_nil ⟨rfl, hi4478⟩
    refine yll_cons rfl (fun w4480 hi4481 => ?_) ?_
    ·
     have hb4482 := low0 hb4416 hi4481
     refine wpo_load1 (v := .int .i64 x4455) ot_3 rfl ((range_low hr4462 hb4482) 0 _ rfl) rfl ?_
     exact wpo_nil ⟨rfl, hi4481⟩
    refine yll_cons rfl (fun w4483 hi4484 => ?_) ?_
    ·
     have hb4485 := low0 hb4416 hi4484
     refine wpo_move (v := .slice b ys.length e) e4420 rfl ?_
     exact wpo_nil ⟨rfl, hi4484⟩
    refine yll_cons rfl (fun w4486 hi4487 => ?_) ?_
    ·
     have hb4488 := low0 hb4416 hi4487
     refine wpo_move (v := .int .i64 (k : Int)) e4418 rfl ?_
     exact wpo_nil ⟨rfl, hi4487⟩
    refine yll_cons rfl (fun w4489 hi4490 => ?_) ?_
    ·
     have hb4491 := low0 hb4416 hi4490
     refine wpo_indexE es_43 rfl rfl ha4468 ho4469 (by omega) (by omega) rfl ?_
     exact wpo_nil ⟨rfl, hi4490⟩
    refine yll_cons rfl (fun w4492 hi4493 => ?_) ?_
    ·
     have hb4494 := low0 hb4416 hi4493
     refine wpo_load1 (v := .int .i64 x4463) ot_3 rfl ((range_low hr4470 hb4494) 0 _ rfl) rfl ?_
     exact wpo_nil ⟨rfl, hi4493⟩
    exact yll_nil
   ·
    intro w4495 hi4496
    have hb4497 := low0 hb4416 hi4496
    refine wpo_neq (q := !(decide (x4455 = x4463))) rfl rfl rfl rfl ?_
    refine wpo_nil ?_
    refine thn_n ?_
    refine wpf_cond rfl (fun h4498 => ?_) (fun h4498 => ?_)
    ·
     have h4499 := nt_t h4498
     have h4500 := of_decide_eq_false h4499
     refine wpf_seq_region ?_
     refine wpo_assign (v := .bool false) rfl rfl ?_
     refine wpo_nil ?_
     refine wpf_ret ?_
     refine blk_r ?_
     refine thn_r ?_
     refine thn_r ?_
     refine blk_r ?_
     refine thn_r ?_
     refine ⟨.bool false, res1 rfl rfl, ?_, hb4497⟩
     exact congrArg Value.bool (decide_eq_false (ne_of_at hx4456 hx4464 (of_decide_eq_false h4499))).symm
    ·
     have h4501 := nt_f h4498
     have h4502 := of_decide_eq_true h4501
     refine wpf_skip ?_
     refine blk_n ?_
     refine thn_n ?_
     refine wpf_region ?_
     refine wpo_move (v := .int .i64 (k : Int)) e4418 rfl ?_
     refine wpo_add (c := (k : Int) + 1) rfl rfl (by omega) (by omega) (by omega) rfl ?_
     refine wpo_assign (v := .int .i64 ((k : Int) + 1)) rfl rfl ?_
     refine wpo_nil ?_
     refine thn_n ?_
     exact ⟨xs.length - (k + 1), by omega, (k + 1), rfl, (by omega), (take_eq_succ ha hx4456 hx4464 (of_decide_eq_true h4501)), rfl, e4419, e4420, hb4497⟩
  ·
   have h4503 := of_decide_eq_false h4421
   refine wpf_exit ?_
   refine thn_e ?_
   refine thn_e ?_
   refine blk_e ?_
   refine thn_n ?_
   refine wpf_seq_region ?_
   refine wpo_assign (v := .bool true) rfl rfl ?_
   refine wpo_nil ?_
   refine wpf_ret ?_
   refine ⟨.bool true, res1 rfl rfl, ?_, hb4416⟩
   exact congrArg Value.bool (decide_eq_true (eq_of_take ha (by omega) (by omega))).symm

theorem eqThing_c (m p : MTh) (w : World) (ha : ThAt w m) (hb : ThAt w p) (hla : m.t.slots.length ≤ 1048576 ∧ m.t.queue.length ≤ 1048576) (hlb : p.t.slots.length ≤ 1048576 ∧ p.t.queue.length ≤ 1048576) : CallsR Try.prog 28 #[.agg #[.int .i64 m.t.kind, .int .i64 m.t.lab.s, .int .i64 m.t.lab.v, .int .i64 m.t.ve, .int .i64 m.t.num, .slice m.sa m.t.slots.length m.sc, .slice m.qa m.t.queue.length m.qc, .int .i64 m.t.to], .agg #[.int .i64 p.t.kind, .int .i64 p.t.lab.s, .int .i64 p.t.lab.v, .int .i64 p.t.ve, .int .i64 p.t.num, .slice p.sa p.t.slots.length p.sc, .slice p.qa p.t.queue.length p.qc, .int .i64 p.t.to]] w (fun v w' => v = .bool (decide (m.t = p.t)) ∧ w.grownBy w' none) := by
 refine calls_of_wpf (n := 43) Try.func28 rfl Try.ntmps28 rfl ?_
 have hb0 := World.grownBy.refl w none
 refine wpf_seq_region ?_
 refine wpo_box (v := .agg #[.int .i64 m.t.kind, .int .i64 m.t.lab.s, .int .i64 m.t.lab.v, .int .i64 m.t.ve, .int .i64 m.t.num, .slice m.sa m.t.slots.length m.sc, .slice m.qa m.t.queue.length m.qc, .int .i64 m.t.to]) (cs := #[.int .i64 m.t.kind, .int .i64 m.t.lab.s, .int .i64 m.t.lab.v, .int .i64 m.t.ve, .int .i64 m.t.num, .slice m.sa m.t.slots.length m.sc, .slice m.qa m.t.queue.length m.qc, .int .i64 m.t.to]) rfl rfl rfl ?_
 intro B4504 w4505 hN4506
 have hlB4504 := hN_ge hN4506 hb0
 have hb4507 := low0 hb0 hN4506.grw
 refine wpo_box (v := .agg #[.int .i64 p.t.kind, .int .i64 p.t.lab.s, .int .i64 p.t.lab.v, .int .i64 p.t.ve, .int .i64 p.t.num, .slice p.sa p.t.slots.length p.sc, .slice p.qa p.t.queue.length p.qc, .int .i64 p.t.to]) (cs := #[.int .i64 p.t.kind, .int .i64 p.t.lab.s, .int .i64 p.t.lab.v, .int .i64 p.t.ve, .int .i64 p.t.num, .slice p.sa p.t.slots.length p.sc, .slice p.qa p.t.queue.length p.qc, .int .i64 p.t.to]) rfl rfl rfl ?_
 intro B4508 w4509 hN4510
 have hlB4508 := hN_ge hN4510 hb4507
 have lt_B4504_B4508 := hN_gtl hN4510 (hN4506.blk).lt
 have hb4511 := low0 hb4507 hN4510.grw
 refine wpo_assign (v := .bool false) rfl rfl ?_
 refine wpo_nil ?_
 refine wpf_seq ?_
 refine wpf_seq_region ?_
 refine wpo_fieldAddr (o' := 0) fo_45_0 rfl rfl rfl ?_
 have k4512 := (hN4506.blk.grown0 hN4510.grw)
 refine wpo_load1 (v := .int .i64 m.t.kind) ot_3 rfl (k4512.cell rfl) rfl ?_
 refine wpo_fieldAddr (o' := 0) fo_45_0 rfl rfl rfl ?_
 refine wpo_load1 (v := .int .i64 p.t.kind) ot_3 rfl (hN4510.blk.cell rfl) rfl ?_
 refine wpo_neq (q := !(decide (m.t.kind = p.t.kind))) rfl rfl rfl rfl ?_
 refine wpo_nil ?_
 refine wpf_cond rfl (fun h4513 => ?_) (fun h4513 => ?_)
 ·
  have h4514 := nt_t h4513
  have h4515 := of_decide_eq_false h4514
  refine wpf_seq_region ?_
  refine wpo_assign (v := .bool false) rfl rfl ?_
  refine wpo_nil ?_
  refine wpf_ret ?_
  refine thn_r ?_
  refine ⟨.bool false, res1 rfl rfl, ?_, hb4511⟩
  exact congrArg Value.bool (decide_eq_false (fun h => of_decide_eq_false h4514 (congrArg Th.kind h))).symm
 ·
  have h4516 := nt_f h4513
  have h4517 := of_decide_eq_true h4516
  refine wpf_skip ?_
  refine thn_n ?_
  refine wpf_seq ?_
  refine wpf_seq_region ?_
  refine wpo_fieldAddr (o' := 1) fo_45_1 rfl rfl rfl ?_
  refine wpo_loadn (vs := [.int .i64 m.t.lab.s, .int .i64 m.t.lab.v]) rt_40 rfl rfl (k4512.rangeL 1 2 rfl) rfl ?_
  refine wpo_fieldAddr (o' := 1) fo_45_1 rfl rfl rfl ?_
  refine wpo_loadn (vs := [.int .i64 p.t.lab.s, .int .i64 p.t.lab.v]) rt_40 rfl rfl (hN4510.blk.rangeL 1 2 rfl) rfl ?_
  refine wpo_call (vs := [.agg #[.int .i64 m.t.lab.s, .int .i64 m.t.lab.v], .agg #[.int .i64 p.t.lab.s, .int .i64 p.t.lab.v]]) gf_76 (args_cons rfl (args_cons rfl args_nil)) rfl (eqLabel_c m.t.lab p.t.lab _) ?_
  rintro _ w4518 ⟨rfl, hg4519⟩
  have hb4520 := low0 hb4511 hg4519
  refine wpo_not (b' := !(decide (m.t.lab = p.t.lab))) rfl rfl rfl ?_
  refine wpo_nil ?_
  refine wpf_cond rfl (fun h4521 => ?_) (fun h4521 => ?_)
  ·
   have h4522 := nt_t h4521
   have h4523 := of_decide_eq_false h4522
   refine wpf_seq_region ?_
   refine wpo_assign (v := .bool false) rfl rfl ?_
   refine wpo_nil ?_
   refine wpf_ret ?_
   refine thn_r ?_
   refine ⟨.bool false, res1 rfl rfl, ?_, hb4520⟩
   exact congrArg Value.bool (decide_eq_false (fun h => of_decide_eq_false h4522 (congrArg Th.lab h))).symm
  ·
   have h4524 := nt_f h4521
   have h4525 := of_decide_eq_true h4524
   refine wpf_skip ?_
   refine thn_n ?_
   refine wpf_seq ?_
   refine wpf_seq_region ?_
   refine wpo_fieldAddr (o' := 3) fo_45_2 rfl rfl rfl ?_
   have k4526 := (k4512.grown0 hg4519)
   refine wpo_load1 (v := .int .i64 m.t.ve) ot_3 rfl (k4526.cell rfl) rfl ?_
   refine wpo_fieldAddr (o' := 3) fo_45_2 rfl rfl rfl ?_
   have k4527 := (hN4510.blk.grown0 hg4519)
   refine wpo_load1 (v := .int .i64 p.t.ve) ot_3 rfl (k4527.cell rfl) rfl ?_
   refine wpo_neq (q := !(decide (m.t.ve = p.t.ve))) rfl rfl rfl rfl ?_
   refine wpo_nil ?_
   refine wpf_cond rfl (fun h4528 => ?_) (fun h4528 => ?_)
   ·
    have h4529 := nt_t h4528
    have h4530 := of_decide_eq_false h4529
    refine wpf_seq_region ?_
    refine wpo_assign (v := .bool false) rfl rfl ?_
    refine wpo_nil ?_
    refine wpf_ret ?_
    refine thn_r ?_
    refine ⟨.bool false, res1 rfl rfl, ?_, hb4520⟩
    exact congrArg Value.bool (decide_eq_false (fun h => of_decide_eq_false h4529 (congrArg Th.ve h))).symm
   ·
    have h4531 := nt_f h4528
    have h4532 := of_decide_eq_true h4531
    refine wpf_skip ?_
    refine thn_n ?_
    refine wpf_seq ?_
    refine wpf_seq_region ?_
    refine wpo_fieldAddr (o' := 4) fo_45_3 rfl rfl rfl ?_
    refine wpo_load1 (v := .int .i64 m.t.num) ot_3 rfl (k4526.cell rfl) rfl ?_
    refine wpo_fieldAddr (o' := 4) fo_45_3 rfl rfl rfl ?_
    refine wpo_load1 (v := .int .i64 p.t.num) ot_3 rfl (k4527.cell rfl) rfl ?_
    refine wpo_neq (q := !(decide (m.t.num = p.t.num))) rfl rfl rfl rfl ?_
    refine wpo_nil ?_
    refine wpf_cond rfl (fun h4533 => ?_) (fun h4533 => ?_)
    ·
     have h4534 := nt_t h4533
     have h4535 := of_decide_eq_false h4534
     refine wpf_seq_region ?_
     refine wpo_assign (v := .bool false) rfl rfl ?_
     refine wpo_nil ?_
     refine wpf_ret ?_
     refine thn_r ?_
     refine ⟨.bool false, res1 rfl rfl, ?_, hb4520⟩
     exact congrArg Value.bool (decide_eq_false (fun h => of_decide_eq_false h4534 (congrArg Th.num h))).symm
    ·
     have h4536 := nt_f h4533
     have h4537 := of_decide_eq_true h4536
     refine wpf_skip ?_
     refine thn_n ?_
     refine wpf_seq ?_
     refine wpf_seq_region ?_
     refine wpo_fieldAddr (o' := 5) fo_45_4 rfl rfl rfl ?_
     refine wpo_load1 (v := .slice m.sa m.t.slots.length m.sc) ot_27 rfl (k4526.cell rfl) rfl ?_
     refine wpo_fieldAddr (o' := 5) fo_45_4 rfl rfl rfl ?_
     refine wpo_load1 (v := .slice p.sa p.t.slots.length p.sc) ot_27 rfl (k4527.cell rfl) rfl ?_
     refine wpo_call (vs := [.slice m.sa m.t.slots.length m.sc, .slice p.sa p.t.slots.length p.sc]) gf_18 (args_cons rfl (args_cons rfl args_nil)) rfl (eqRightS_c _ m.t.slots p.t.slots _ _ _ _ (SlAt.low ha.1 hb4520) (SlAt.low hb.1 hb4520) (by first | omega | exact Nat.le_of_ble_eq_true rfl | (simp only [List.length_nil, List.length_cons, List.length_append, List.length_replicate]; omega)) (by first | omega | exact Nat.le_of_ble_eq_true rfl | (simp only [List.length_nil, List.length_cons, List.length_append, List.length_replicate]; omega))) ?_
     rintro _ w4538 ⟨rfl, hg4539⟩
     have hb4540 := low0 hb4520 hg4539
     refine wpo_not (b' := !(decide (m.t.slots = p.t.slots))) rfl rfl rfl ?_
     refine wpo_nil ?_
     refine wpf_cond rfl (fun h4541 => ?_) (fun h4541 => ?_)
     ·
      have h4542 := nt_t h4541
      have h4543 := of_decide_eq_false h4542
      refine wpf_seq_region ?_
      refine wpo_assign (v := .bool false) rfl rfl ?_
      refine wpo_nil ?_
      refine wpf_ret ?_
      refine thn_r ?_
      refine ⟨.bool false, res1 rfl rfl, ?_, hb4540⟩
      exact congrArg Value.bool (decide_eq_false (fun h => of_decide_eq_false h4542 (congrArg Th.slots h))).symm
     ·
      have h4544 := nt_f h4541
      have h4545 := of_decide_eq_true h4544
      refine wpf_skip ?_
      refine thn_n ?_
      refine wpf_seq ?_
      refine wpf_seq_region ?_
      refine wpo_fieldAddr (o' := 6) fo_45_5 rfl rfl rfl ?_
      have k4546 := (k4526.grown0 hg4539)
      refine wpo_load1 (v := .slice m.qa m.t.queue.length m.qc) ot_43 rfl (k4546.cell rfl) rfl ?_
      refine wpo_fieldAddr (o' := 6) fo_45_5 rfl rfl rfl ?_
      have k4547 := (k4527.grown0 hg4539)
      refine wpo_load1 (v := .slice p.qa p.t.queue.length p.qc) ot_43 rfl (k4547.cell rfl) rfl ?_
      refine wpo_call (vs := [.slice m.qa m.t.queue.length m.qc, .slice p.qa p.t.queue.length p.qc]) gf_77 (args_cons rfl (args_cons rfl args_nil)) rfl (eqIntS_c _ m.t.queue p.t.queue _ _ _ _ (SlAt.low ha.2.1 hb4540) (SlAt.low hb.2.1 hb4540) (by first | omega | exact Nat.le_of_ble_eq_true rfl | (simp only [List.length_nil, List.length_cons, List.length_append, List.length_replicate]; omega)) (by first | omega | exact Nat.le_of_ble_eq_true rfl | (simp only [List.length_nil, List.length_cons, List.length_append, List.length_replicate]; omega))) ?_
      rintro _ w4548 ⟨rfl, hg4549⟩
      have hb4550 := low0 hb4540 hg4549
      refine wpo_not (b' := !(decide (m.t.queue = p.t.queue))) rfl rfl rfl ?_
      refine wpo_nil ?_
      refine wpf_cond rfl (fun h4551 => ?_) (fun h4551 => ?_)
      ·
       have h4552 := nt_t h4551
       have h4553 := of_decide_eq_false h4552
       refine wpf_seq_region ?_
       refine wpo_assign (v := .bool false) rfl rfl ?_
       refine wpo_nil ?_
       refine wpf_ret ?_
       refine thn_r ?_
       refine ⟨.bool false, res1 rfl rfl, ?_, hb4550⟩
       exact congrArg Value.bool (decide_eq_false (fun h => of_decide_eq_false h4552 (congrArg Th.queue h))).symm
      ·
       have h4554 := nt_f h4551
       have h4555 := of_decide_eq_true h4554
       refine wpf_skip ?_
       refine thn_n ?_
       refine wpf_seq ?_
       refine wpf_seq_region ?_
       refine wpo_fieldAddr (o' := 7) fo_45_6 rfl rfl rfl ?_
       have k4556 := (k4546.grown0 hg4549)
       refine wpo_load1 (v := .int .i64 m.t.to) ot_3 rfl (k4556.cell rfl) rfl ?_
       refine wpo_fieldAddr (o' := 7) fo_45_6 rfl rfl rfl ?_
       have k4557 := (k4547.grown0 hg4549)
       refine wpo_load1 (v := .int .i64 p.t.to) ot_3 rfl (k4557.cell rfl) rfl ?_
       refine wpo_neq (q := !(decide (m.t.to = p.t.to))) rfl rfl rfl rfl ?_
       refine wpo_nil ?_
       refine wpf_cond rfl (fun h4558 => ?_) (fun h4558 => ?_)
       ·
        have h4559 := nt_t h4558
        have h4560 := of_decide_eq_false h4559
        refine wpf_seq_region ?_
        refine wpo_assign (v := .bool false) rfl rfl ?_
        refine wpo_nil ?_
        refine wpf_ret ?_
        refine thn_r ?_
        refine ⟨.bool false, res1 rfl rfl, ?_, hb4550⟩
        exact congrArg Value.bool (decide_eq_false (fun h => of_decide_eq_false h4559 (congrArg Th.to h))).symm
       ·
        have h4561 := nt_f h4558
        have h4562 := of_decide_eq_true h4561
        refine wpf_skip ?_
        refine thn_n ?_
        refine wpf_seq_region ?_
        refine wpo_assign (v := .bool true) rfl rfl ?_
        refine wpo_nil ?_
        refine wpf_ret ?_
        refine ⟨.bool true, res1 rfl rfl, ?_, hb4550⟩
        exact congrArg Value.bool (decide_eq_true (th_ext (of_decide_eq_true h4516) (of_decide_eq_true h4524) (of_decide_eq_true h4531) (of_decide_eq_true h4536) (of_decide_eq_true h4544) (of_decide_eq_true h4554) (of_decide_eq_true h4561))).symm

theorem toLabel_c (l : Lab) (w : World) : CallsR Try.prog 27 #[.agg #[.int .i64 l.s, .int .i64 l.v]] w (fun v w' => v = .agg #[.int .i64 l.s, .int .i64 l.v] ∧ w.grownBy w' none) := by
 refine calls_of_wpf (n := 11) Try.func27 rfl Try.ntmps27 rfl ?_
 have hb0 := World.grownBy.refl w none
 refine wpf_seq_region ?_
 refine wpo_box (v := .agg #[.int .i64 l.s, .int .i64 l.v]) (cs := #[.int .i64 l.s, .int .i64 l.v]) rfl rfl rfl ?_
 intro B4563 w4564 hN4565
 have hlB4563 := hN_ge hN4565 hb0
 have hb4566 := low0 hb0 hN4565.grw
 refine wpo_alloc (cs := #[.int .i64 0, .int .i64 0]) zt_40 rfl rfl ?_
 intro B4567 w4568 hN4569
 have hlB4567 := hN_ge hN4569 hb4566
 have lt_B4563_B4567 := hN_gtl hN4569 (hN4565.blk).lt
 have hb4570 := low0 hb4566 hN4569.grw
 refine wpo_nil ?_
 refine wpf_seq_region ?_
 refine wpo_alloc (cs := #[.int .i64 0, .int .i64 0]) zt_40 rfl rfl ?_
 intro B4571 w4572 hN4573
 have hlB4571 := hN_ge hN4573 hb4570
 have k4574 := (hN4565.blk.grown0 hN4569.grw)
 have lt_B4563_B4571 := hN_gtl hN4573 (k4574).lt
 have lt_B4567_B4571 := hN_gtl hN4573 (hN4569.blk).lt
 have hb4575 := low0 hb4570 hN4573.grw
 refine wpo_nil ?_
 refine wpf_seq_region ?_
 refine wpo_fieldAddr (o' := 0) fo_50_0 rfl rfl rfl ?_
 have k4576 := (k4574.grown0 hN4573.grw)
 refine wpo_load1 (v := .int .i64 l.s) ot_3 rfl (k4576.cell rfl) rfl ?_
 refine wpo_fieldAddr (o' := 0) fo_40_0 rfl rfl rfl ?_
 refine wpo_store1 (v := .int .i64 l.s) (cs' := #[.int .i64 l.s, .int .i64 0]) ot_3 rfl rfl rfl hN4573.blk (Nat.le_of_ble_eq_true rfl) rfl ?_
 intro w4577 hS4578
 have hb4579 := low1 hb4575 hS4578.grw (by omega)
 refine wpo_nil ?_
 refine wpf_seq_region ?_
 refine wpo_fieldAddr (o' := 1) fo_50_1 rfl rfl rfl ?_
 have k4580 := (k4576.grown hS4578.grw (some_ne (by omega)))
 refine wpo_load1 (v := .int .i64 l.v) ot_3 rfl (k4580.cell rfl) rfl ?_
 refine wpo_fieldAddr (o' := 1) fo_40_1 rfl rfl rfl ?_
 refine wpo_store1 (v := .int .i64 l.v) (cs' := #[.int .i64 l.s, .int .i64 l.v]) ot_3 rfl rfl rfl hS4578.blk (Nat.le_of_ble_eq_true rfl) rfl ?_
 intro w4581 hS4582
 have hb4583 := low1 hb4579 hS4582.grw (by omega)
 refine wpo_nil ?_
 refine wpf_seq_region ?_
 refine wpo_loadn (vs := [.int .i64 l.s, .int .i64 l.v]) rt_40 rfl rfl (hS4582.blk.rangeL 0 2 rfl) rfl ?_
 have k4584 := (((hN4569.blk.grown0 hN4573.grw).grown hS4578.grw (some_ne (by omega))).grown hS4582.grw (some_ne (by omega)))
 refine wpo_storen (vs := [.int .i64 l.s, .int .i64 l.v]) (cs' := #[.int .i64 l.s, .int .i64 l.v]) rt_40 rfl rfl rfl (by simp [Value.oneCell']) k4584 (Nat.le_of_ble_eq_true rfl) rfl ?_
 intro w4585 hS4586
 have hb4587 := low1 hb4583 hS4586.grw (by omega)
 refine wpo_nil ?_
 refine wpf_ret ?_
 refine ⟨.agg #[.int .i64 l.s, .int .i64 l.v], resC rfl (resCell_mk (vs := [.int .i64 l.s, .int .i64 l.v]) rt_40 rfl rfl (hS4586.blk.rangeL 0 2 rfl)), ?_, hb4587⟩
 rfl

theorem markRightS_c (n : Int) (hn0 : 0 ≤ n ∧ n ≤ 1099511627776) (S sc : Nat) (xs : List Rt) (w : World) (hS : Dw.Own w S 29 5 sc xs.length (xs.flatMap Rt.cells)) (hl : xs.length ≤ 1048576) : CallsR Try.prog 78 #[.slice (some ⟨S, 0, none⟩) xs.length sc, .int .i64 n] w (fun v w' => v = .int .i64 (n + 5 * (xs.length : Int)) ∧ Dw.Own w' S 29 5 sc ((List.range xs.length).map (fun i : Nat => mkRt (n + 5 * (i : Int)))).length (((List.range xs.length).map (fun i : Nat => mkRt (n + 5 * (i : Int)))).flatMap Rt.cells) ∧ w.grownBy w' (some S)) := by
 refine calls_of_wpf (n := 54) Try.func78 rfl Try.ntmps78 rfl ?_
 have hb0 := World.grownBy.refl w (some S)
 have hSlt := hS.lt
 refine wpf_seq_region ?_
 refine wpo_assign (v := .int .i64 0) rfl rfl ?_
 refine wpo_nil ?_
 refine wpf_seq ?_
 refine wpf_seq_region ?_
 refine wpo_assign (v := .int .i64 0) rfl rfl ?_
 refine wpo_nil ?_
 refine wpf_block ?_
 refine wpf_loopN (fun mm f' w' => ∃ (k : Nat), mm = xs.length - k ∧ k ≤ xs.length ∧ (markR n xs k).length = xs.length ∧ f' 1 = .int .i64 (n + 5 * (k : Int)) ∧ f' 5 = .int .i64 (k : Int) ∧ f' 0 = .slice (some ⟨S, 0, none⟩) xs.length sc ∧ f' 4 = .int .i64 0 ∧ w.grownBy w' (some S) ∧ Dw.Own w' S 29 5 sc (markR n xs k).length ((markR n xs k).flatMap Rt.cells)) (xs.length - 0) ⟨0, rfl, (Nat.zero_le _), (by rw [markR_zero]), (congrArg (Value.int .i64) (by omega)), rfl, rfl, rfl, hb0, (by rw [markR_zero]; exact hS)⟩ ?_
 rintro mm f4588 w4589 ⟨k, hm4591, hk, hkl, e4592, e4593, e4594, e4595, hb4590, k4596⟩
 refine wpf_seq ?_
 refine wpf_seq_region ?_
 refine wpo_move (v := .int .i64 (k : Int)) e4593 rfl ?_
 refine wpo_move (v := .slice (some ⟨S, 0, none⟩) xs.length sc) e4594 rfl ?_
 refine wpo_len (by kernel_rfl) rfl rfl ?_
 refine wpo_lss (q := decide ((k : Int) < (xs.length : Int))) rfl rfl rfl rfl ?_
 refine wpo_nil ?_
 refine wpf_cond rfl (fun h4597 => ?_) (fun h4597 => ?_)
 ·
  have h4598 := of_decide_eq_true h4597
  refine wpf_skip ?_
  refine thn_n ?_
  refine wpf_seq ?_
  refine wpf_block ?_
  refine wpf_seq_region ?_
  refine wpo_move (v := .slice (some ⟨S, 0, none⟩) xs.length sc) e4594 rfl ?_
  refine wpo_move (v := .int .i64 (k : Int)) e4593 rfl ?_
  refine wpo_move (v := .int .i64 (n + 5 * (k : Int))) e4592 rfl ?_
  refine wpo_indexAddr (o' := k * 5) es_27 rfl rfl (by omega) (by omega) (by omega) rfl ?_
  refine wpo_fieldAddr (o' := k * 5) fo_29_0 rfl rfl rfl ?_
  obtain ⟨x4602, hx4603⟩ := get_lt (l := markR n xs k) (i := k) (by omega)
  refine wpo_store1O (g := Rt.cells) (j := 0) (z := x4602) (z' := ⟨n + 5 * (k : Int), x4602.ve, x4602.rd, x4602.wr, x4602.wk⟩) (v := .int .i64 (n + 5 * (k : Int))) ot_3 rfl rfl rfl wide_rt k4596 hx4603 (by omega) rfl rfl ?_
  intro w4599 hO4600 hg4601
  have hb4604 := grown_trans hb4590 hg4601
  refine wpo_nil ?_
  refine wpf_seq_region ?_
  refine wpo_move (v := .int .i64 (n + 5 * (k : Int))) e4592 rfl ?_
  refine wpo_add (c := n + 5 * (k : Int) + 1) rfl rfl (by omega) (by omega) (by omega) rfl ?_
  refine wpo_assign (v := .int .i64 (n + 5 * (k : Int) + 1)) rfl rfl ?_
  refine wpo_nil ?_
  refine wpf_seq_region ?_
  refine wpo_move (v := .slice (some ⟨S, 0, none⟩) xs.length sc) e4594 rfl ?_
  refine wpo_move (v := .int .i64 (k : Int)) e4593 rfl ?_
  refine wpo_move (v := .int .i64 (n + 5 * (k : Int) + 1)) rfl rfl ?_
  refine wpo_indexAddr (o' := k * 5) es_27 rfl rfl (by omega) (by omega) (by omega) rfl ?_
  refine wpo_fieldAddr (o' := k * 5 + 1) fo_29_1 rfl rfl rfl ?_
  refine wpo_store1O (g := Rt.cells) (j := 1) (z := ⟨n + 5 * (k : Int), x4602.ve, x4602.rd, x4602.wr, x4602.wk⟩) (z' := ⟨n + 5 * (k : Int), n + 5 * (k : Int) + 1, x4602.rd, x4602.wr, x4602.wk⟩) (v := .int .i64 (n + 5 * (k : Int) + 1)) ot_3 rfl rfl rfl wide_rt hO4600 (get_set hx4603) (by omega) rfl rfl ?_
  intro w4605 hO4606 hg4607
  have hb4608 := grown_trans hb4604 hg4607
  refine wpo_nil ?_
  refine wpf_seq_region ?_
  refine wpo_move (v := .int .i64 (n + 5 * (k : Int) + 1)) rfl rfl ?_
  refine wpo_add (c := n + 5 * (k : Int) + 1 + 1) rfl rfl (by omega) (by omega) (by omega) rfl ?_
  refine wpo_assign (v := .int .i64 (n + 5 * (k : Int) + 1 + 1)) rfl rfl ?_
  refine wpo_nil ?_
  refine wpf_seq_region ?_
  refine wpo_move (v := .slice (some ⟨S, 0, none⟩) xs.length sc) e4594 rfl ?_
  refine wpo_move (v := .int .i64 (k : Int)) e4593 rfl ?_
  refine wpo_move (v := .int .i64 (n + 5 * (k : Int) + 1 + 1)) rfl rfl ?_
  refine wpo_rem (c := (n + 5 * (k : Int) + 1 + 1) % 3) rfl rfl (by omega) (by omega) (by omega) rfl rfl ?_
  refine wpo_eql (q := decide ((n + 5 * (k : Int) + 1 + 1) % 3 = 0)) rfl rfl rfl rfl ?_
  refine wpo_indexAddr (o' := k * 5) es_27 rfl rfl (by omega) (by omega) (by omega) rfl ?_
  refine wpo_fieldAddr (o' := k * 5 + 2) fo_29_2 rfl rfl rfl ?_
  refine wpo_store1O (g := Rt.cells) (j := 2) (z := ⟨n + 5 * (k : Int), n + 5 * (k : Int) + 1, x4602.rd, x4602.wr, x4602.wk⟩) (z' := ⟨n + 5 * (k : Int), n + 5 * (k : Int) + 1, decide ((n + 5 * (k : Int) + 1 + 1) % 3 = 0), x4602.wr, x4602.wk⟩) (v := .bool (decide ((n + 5 * (k : Int) + 1 + 1) % 3 = 0))) ot_4 rfl rfl rfl wide_rt (Own.set2 hO4606) (get_set hx4603) (by omega) rfl rfl ?_
  intro w4609 hO4610 hg4611
  have hb4612 := grown_trans hb4608 hg4611
  refine wpo_nil ?_
  refine wpf_seq_region ?_
  refine wpo_move (v := .int .i64 (n + 5 * (k : Int) + 1 + 1)) rfl rfl ?_
  refine wpo_add (c := n + 5 * (k : Int) + 1 + 1 + 1) rfl rfl (by omega) (by omega) (by omega) rfl ?_
  refine wpo_assign (v := .int .i64 (n + 5 * (k : Int) + 1 + 1 + 1)) rfl rfl ?_
  refine wpo_nil ?_
  refine wpf_seq_region ?_
  refine wpo_move (v := .slice (some ⟨S, 0, none⟩) xs.length sc) e4594 rfl ?_
  refine wpo_move (v := .int .i64 (k : Int)) e4593 rfl ?_
  refine wpo_move (v := .int .i64 (n + 5 * (k : Int) + 1 + 1 + 1)) rfl rfl ?_
  refine wpo_rem (c := (n + 5 * (k : Int) + 1 + 1 + 1) % 3) rfl rfl (by omega) (by omega) (by omega) rfl rfl ?_
  refine wpo_eql (q := decide ((n + 5 * (k : Int) + 1 + 1 + 1) % 3 = 0)) rfl rfl rfl rfl ?_
  refine wpo_indexAddr (o' := k * 5) es_27 rfl rfl (by omega) (by omega) (by omega) rfl ?_
  refine wpo_fieldAddr (o' := k * 5 + 3) fo_29_3 rfl rfl rfl ?_
  refine wpo_store1O (g := Rt.cells) (j := 3) (z := ⟨n + 5 * (k : Int), n + 5 * (k : Int) + 1, decide ((n + 5 * (k : Int) + 1 + 1) % 3 = 0), x4602.wr, x4602.wk⟩) (z' := ⟨n + 5 * (k : Int), n + 5 * (k : Int) + 1, decide ((n + 5 * (k : Int) + 1 + 1) % 3 = 0), decide ((n + 5 * (k : Int) + 1 + 1 + 1) % 3 = 0), x4602.wk⟩) (v := .bool (decide ((n + 5 * (k : Int) + 1 + 1 + 1) % 3 = 0))) ot_4 rfl rfl rfl wide_rt (Own.set2 hO4610) (get_set hx4603) (by omega) rfl rfl ?_
  intro w4613 hO4614 hg4615
  have hb4616 := grown_trans hb4612 hg4615
  refine wpo_nil ?_
  refine wpf_seq_region ?_
  refine wpo_move (v := .int .i64 (n + 5 * (k : Int) + 1 + 1 + 1)) rfl rfl ?_
  refine wpo_add (c := n + 5 * (k : Int) + 1 + 1 + 1 + 1) rfl rfl (by omega) (by omega) (by omega) rfl ?_
  refine wpo_assign (v := .int .i64 (n + 5 * (k : Int) + 1 + 1 + 1 + 1)) rfl rfl ?_
  refine wpo_nil ?_
  refine wpf_seq_region ?_
  refine wpo_move (v := .slice (some ⟨S, 0, none⟩) xs.length sc) e4594 rfl ?_
  refine wpo_move (v := .int .i64 (k : Int)) e4593 rfl ?_
  refine wpo_move (v := .int .i64 (n + 5 * (k : Int) + 1 + 1 + 1 + 1)) rfl rfl ?_
  refine wpo_rem (c := (n + 5 * (k : Int) + 1 + 1 + 1 + 1) % 3) rfl rfl (by omega) (by omega) (by omega) rfl rfl ?_
  refine wpo_eql (q := decide ((n + 5 * (k : Int) + 1 + 1 + 1 + 1) % 3 = 0)) rfl rfl rfl rfl ?_
  refine wpo_indexAddr (o' := k * 5) es_27 rfl rfl (by omega) (by omega) (by omega) rfl ?_
  refine wpo_fieldAddr (o' := k * 5 + 4) fo_29_4 rfl rfl rfl ?_
  refine wpo_store1O (g := Rt.cells) (j := 4) (z := ⟨n + 5 * (k : Int), n + 5 * (k : Int) + 1, decide ((n + 5 * (k : Int) + 1 + 1) % 3 = 0), decide ((n + 5 * (k : Int) + 1 + 1 + 1) % 3 = 0), x4602.wk⟩) (z' := ⟨n + 5 * (k : Int), n + 5 * (k : Int) + 1, decide ((n + 5 * (k : Int) + 1 + 1) % 3 = 0), decide ((n + 5 * (k : Int) + 1 + 1 + 1) % 3 = 0), decide ((n + 5 * (k : Int) + 1 + 1 + 1 + 1) % 3 = 0)⟩) (v := .bool (decide ((n + 5 * (k : Int) + 1 + 1 + 1 + 1) % 3 = 0))) ot_4 rfl rfl rfl wide_rt (Own.set2 hO4614) (get_set hx4603) (by omega) rfl rfl ?_
  intro w4617 hO4618 hg4619
  have hb4620 := grown_trans hb4616 hg4619
  refine wpo_nil ?_
  refine wpf_region ?_
  refine wpo_move (v := .int .i64 (n + 5 * (k : Int) + 1 + 1 + 1 + 1)) rfl rfl ?_
  refine wpo_add (c := n + 5 * (k : Int) + 1 + 1 + 1 + 1 + 1) rfl rfl (by omega) (by omega) (by omega) rfl ?_
  refine wpo_assign (v := .int .i64 (n + 5 * (k : Int) + 1 + 1 + 1 + 1 + 1)) rfl rfl ?_
  refine wpo_nil ?_
  refine blk_n ?_
  refine thn_n ?_
  refine wpf_region ?_
  refine wpo_move (v := .int .i64 (k : Int)) e4593 rfl ?_
  refine wpo_add (c := (k : Int) + 1) rfl rfl (by omega) (by omega) (by omega) rfl ?_
  refine wpo_assign (v := .int .i64 ((k : Int) + 1)) rfl rfl ?_
  refine wpo_nil ?_
  refine thn_n ?_
  exact ⟨xs.length - (k + 1), by omega, (k + 1), rfl, (by omega), (markR_len (by omega)), (congrArg (Value.int .i64) (by omega)), rfl, e4594, e4595, hb4620, (by have kk := (Own.set2 hO4618); rw [markR_set (by omega)] at kk; exact kk)⟩
 ·
  have h4621 := of_decide_eq_false h4597
  refine wpf_exit ?_
  refine thn_e ?_
  refine thn_e ?_
  refine blk_e ?_
  refine thn_n ?_
  refine wpf_seq_region ?_
  refine wpo_move (v := .int .i64 (n + 5 * (k : Int))) e4592 rfl ?_
  refine wpo_assign (v := .int .i64 (n + 5 * (k : Int))) rfl rfl ?_
  refine wpo_nil ?_
  refine wpf_ret ?_
  have hke : k = xs.length := by omega
  refine ⟨.int .i64 (n + 5 * (k : Int)), res1 rfl rfl, congrArg (Value.int .i64) (by omega), ?_, hb4590⟩
  have kk := k4596
  rw [markR_all (by omega), hke] at kk
  exact kk

theorem markIntS_c (n : Int) (hn0 : 0 ≤ n ∧ n ≤ 1099511627776) (S sc : Nat) (xs : List Int) (w : World) (hS : Dw.Own w S 3 1 sc xs.length (xs.flatMap icell)) (hl : xs.length ≤ 1048576) : CallsR Try.prog 79 #[.slice (some ⟨S, 0, none⟩) xs.length sc, .int .i64 n] w (fun v w' => v = .int .i64 (n + (xs.length : Int)) ∧ Dw.Own w' S 3 1 sc ((List.range xs.length).map (fun i : Nat => n + (i : Int))).length (((List.range xs.length).map (fun i : Nat => n + (i : Int))).flatMap icell) ∧ w.grownBy w' (some S)) := by
 refine calls_of_wpf (n := 19) Try.func79 rfl Try.ntmps79 rfl ?_
 have hb0 := World.grownBy.refl w (some S)
 have hSlt := hS.lt
 refine wpf_seq_region ?_
 refine wpo_assign (v := .int .i64 0) rfl rfl ?_
 refine wpo_nil ?_
 refine wpf_seq ?_
 refine wpf_seq_region ?_
 refine wpo_assign (v := .int .i64 0) rfl rfl ?_
 refine wpo_nil ?_
 refine wpf_block ?_
 refine wpf_loopN (fun mm f' w' => ∃ (k : Nat), mm = xs.length - k ∧ k ≤ xs.length ∧ (markI n xs k).length = xs.length ∧ f' 1 = .int .i64 (n + (k : Int)) ∧ f' 5 = .int .i64 (k : Int) ∧ f' 0 = .slice (some ⟨S, 0, none⟩) xs.length sc ∧ f' 4 = .int .i64 0 ∧ w.grownBy w' (some S) ∧ Dw.Own w' S 3 1 sc (markI n xs k).length ((markI n xs k).flatMap icell)) (xs.length - 0) ⟨0, rfl, (Nat.zero_le _), (by rw [markI_zero]), (congrArg (Value.int .i64) (by omega)), rfl, rfl, rfl, hb0, (by rw [markI_zero]; exact hS)⟩ ?_
 rintro mm f4622 w4623 ⟨k, hm4625, hk, hkl, e4626, e4627, e4628, e4629, hb4624, k4630⟩
 refine wpf_seq ?_
 refine wpf_seq_region ?_
 refine wpo_move (v := .int .i64 (k : Int)) e4627 rfl ?_
 refine wpo_move (v := .slice (some ⟨S, 0, none⟩) xs.length sc) e4628 rfl ?_
 refine wpo_len (by kernel_rfl) rfl rfl ?_
 refine wpo_lss (q := decide ((k : Int) < (xs.length : Int))) rfl rfl rfl rfl ?_
 refine wpo_nil ?_
 refine wpf_cond rfl (fun h4631 => ?_) (fun h4631 => ?_)
 ·
  have h4632 := of_decide_eq_true h4631
  refine wpf_skip ?_
  refine thn_n ?_
  refine wpf_seq ?_
  refine wpf_block ?_
  refine wpf_seq_region ?_
  refine wpo_move (v := .slice (some ⟨S, 0, none⟩) xs.length sc) e4628 rfl ?_
  refine wpo_move (v := .int .i64 (k : Int)) e4627 rfl ?_
  refine wpo_move (v := .int .i64 (n + (k : Int))) e4626 rfl ?_
  refine wpo_indexAddr (o' := k * 1) es_43 rfl rfl (by omega) (by omega) (by omega) rfl ?_
  obtain ⟨x4636, hx4637⟩ := get_lt (l := markI n xs k) (i := k) (by omega)
  refine wpo_store1O (g := icell) (j := 0) (z := x4636) (z' := n + (k : Int)) (v := .int .i64 (n + (k : Int))) ot_3 rfl rfl rfl wide_int k4630 hx4637 (by omega) rfl rfl ?_
  intro w4633 hO4634 hg4635
  have hb4638 := grown_trans hb4624 hg4635
  refine wpo_nil ?_
  refine wpf_region ?_
  refine wpo_move (v := .int .i64 (n + (k : Int))) e4626 rfl ?_
  refine wpo_add (c := n + (k : Int) + 1) rfl rfl (by omega) (by omega) (by omega) rfl ?_
  refine wpo_assign (v := .int .i64 (n + (k : Int) + 1)) rfl rfl ?_
  refine wpo_nil ?_
  refine blk_n ?_
  refine thn_n ?_
  refine wpf_region ?_
  refine wpo_move (v := .int .i64 (k : Int)) e4627 rfl ?_
  refine wpo_add (c := (k : Int) + 1) rfl rfl (by omega) (by omega) (by omega) rfl ?_
  refine wpo_assign (v := .int .i64 ((k : Int) + 1)) rfl rfl ?_
  refine wpo_nil ?_
  refine thn_n ?_
  exact ⟨xs.length - (k + 1), by omega, (k + 1), rfl, (by omega), (markI_len (by omega)), (congrArg (Value.int .i64) (by omega)), rfl, e4628, e4629, hb4638, (by have kk := hO4634; rw [markI_set (by omega)] at kk; exact kk)⟩
 ·
  have h4639 := of_decide_eq_false h4631
  refine wpf_exit ?_
  refine thn_e ?_
  refine thn_e ?_
  refine blk_e ?_
  refine thn_n ?_
  refine wpf_seq_region ?_
  refine wpo_move (v := .int .i64 (n + (k : Int))) e4626 rfl ?_
  refine wpo_assign (v := .int .i64 (n + (k : Int))) rfl rfl ?_
  refine wpo_nil ?_
  refine wpf_ret ?_
  have hke : k = xs.length := by omega
  refine ⟨.int .i64 (n + (k : Int)), res1 rfl rfl, congrArg (Value.int .i64) (by omega), ?_, hb4624⟩
  have kk := k4630
  rw [markI_all (by omega), hke] at kk
  exact kk

theorem markRightS_0 (n : Int) (a : Option Addr) (c : Nat) (w : World) : CallsR Try.prog 78 #[.slice a 0 c, .int .i64 n] w (fun v w' => v = .int .i64 n ∧ w.grownBy w' none) := by
 refine calls_of_wpf (n := 54) Try.func78 rfl Try.ntmps78 rfl ?_
 have hb0 := World.grownBy.refl w none
 refine wpf_seq_region ?_
 refine wpo_assign (v := .int .i64 0) rfl rfl ?_
 refine wpo_nil ?_
 refine wpf_seq ?_
 refine wpf_seq_region ?_
 refine wpo_assign (v := .int .i64 0) rfl rfl ?_
 refine wpo_nil ?_
 refine wpf_block ?_
 refine wpf_loopN (fun mm f' w' => mm = 0 ∧ f' 1 = .int .i64 n ∧ f' 5 = .int .i64 0 ∧ f' 0 = .slice a 0 c ∧ f' 4 = .int .i64 0 ∧ w.grownBy w' none) (0) ⟨rfl, rfl, rfl, rfl, rfl, hb0⟩ ?_
 rintro mm f4640 w4641 ⟨hm4643, e4644, e4645, e4646, e4647, hb4642⟩
 refine wpf_seq ?_
 refine wpf_seq_region ?_
 refine wpo_move (v := .int .i64 0) e4645 rfl ?_
 refine wpo_move (v := .slice a 0 c) e4646 rfl ?_
 refine wpo_len (by kernel_rfl) rfl rfl ?_
 refine wpo_lss (q := false) rfl rfl (by decide) rfl ?_
 refine wpo_nil ?_
 refine wpf_condf rfl rfl ?_
 refine wpf_exit ?_
 refine thn_e ?_
 refine thn_e ?_
 refine blk_e ?_
 refine thn_n ?_
 refine wpf_seq_region ?_
 refine wpo_move (v := .int .i64 n) e4644 rfl ?_
 refine wpo_assign (v := .int .i64 n) rfl rfl ?_
 refine wpo_nil ?_
 refine wpf_ret ?_
 refine ⟨.int .i64 n, res1 rfl rfl, rfl, hb4642⟩

theorem markIntS_0 (n : Int) (a : Option Addr) (c : Nat) (w : World) : CallsR Try.prog 79 #[.slice a 0 c, .int .i64 n] w (fun v w' => v = .int .i64 n ∧ w.grownBy w' none) := by
 refine calls_of_wpf (n := 19) Try.func79 rfl Try.ntmps79 rfl ?_
 have hb0 := World.grownBy.refl w none
 refine wpf_seq_region ?_
 refine wpo_assign (v := .int .i64 0) rfl rfl ?_
 refine wpo_nil ?_
 refine wpf_seq ?_
 refine wpf_seq_region ?_
 refine wpo_assign (v := .int .i64 0) rfl rfl ?_
 refine wpo_nil ?_
 refine wpf_block ?_
 refine wpf_loopN (fun mm f' w' => mm = 0 ∧ f' 1 = .int .i64 n ∧ f' 5 = .int .i64 0 ∧ f' 0 = .slice a 0 c ∧ f' 4 = .int .i64 0 ∧ w.grownBy w' none) (0) ⟨rfl, rfl, rfl, rfl, rfl, hb0⟩ ?_
 rintro mm f4648 w4649 ⟨hm4651, e4652, e4653, e4654, e4655, hb4650⟩
 refine wpf_seq ?_
 refine wpf_seq_region ?_
 refine wpo_move (v := .int .i64 0) e4653 rfl ?_
 refine wpo_move (v := .slice a 0 c) e4654 rfl ?_
 refine wpo_len (by kernel_rfl) rfl rfl ?_
 refine wpo_lss (q := false) rfl rfl (by decide) rfl ?_
 refine wpo_nil ?_
 refine wpf_condf rfl rfl ?_
 refine wpf_exit ?_
 refine thn_e ?_
 refine thn_e ?_
 refine blk_e ?_
 refine thn_n ?_
 refine wpf_seq_region ?_
 refine wpo_move (v := .int .i64 n) e4652 rfl ?_
 refine wpo_assign (v := .int .i64 n) rfl rfl ?_
 refine wpo_nil ?_
 refine wpf_ret ?_
 refine ⟨.int .i64 n, res1 rfl rfl, rfl, hb4650⟩

theorem heldRightS_0 (n : Int) (a : Option Addr) (c : Nat) (w : World) : CallsR Try.prog 80 #[.slice a 0 c, .int .i64 n] w (fun v w' => v = .int .i64 n ∧ w.grownBy w' none) := by
 refine calls_of_wpf (n := 64) Try.func80 rfl Try.ntmps80 rfl ?_
 have hb0 := World.grownBy.refl w none
 refine wpf_seq_region ?_
 refine wpo_assign (v := .int .i64 0) rfl rfl ?_
 refine wpo_nil ?_
 refine wpf_seq ?_
 refine wpf_seq_region ?_
 refine wpo_assign (v := .int .i64 0) rfl rfl ?_
 refine wpo_nil ?_
 refine wpf_block ?_
 refine wpf_loopN (fun mm f' w' => mm = 0 ∧ f' 1 = .int .i64 n ∧ f' 5 = .int .i64 0 ∧ f' 0 = .slice a 0 c ∧ w.grownBy w' none) (0) ⟨rfl, rfl, rfl, rfl, hb0⟩ ?_
 rintro mm f4656 w4657 ⟨hm4659, e4660, e4661, e4662, hb4658⟩
 refine wpf_seq ?_
 refine wpf_seq_region ?_
 refine wpo_move (v := .int .i64 0) e4661 rfl ?_
 refine wpo_move (v := .slice a 0 c) e4662 rfl ?_
 refine wpo_len (by kernel_rfl) rfl rfl ?_
 refine wpo_lss (q := false) rfl rfl (by decide) rfl ?_
 refine wpo_nil ?_
 refine wpf_condf rfl rfl ?_
 refine wpf_exit ?_
 refine thn_e ?_
 refine thn_e ?_
 refine blk_e ?_
 refine thn_n ?_
 refine wpf_seq_region ?_
 refine wpo_move (v := .int .i64 n) e4660 rfl ?_
 refine wpo_assign (v := .int .i64 n) rfl rfl ?_
 refine wpo_nil ?_
 refine wpf_ret ?_
 refine ⟨.int .i64 n, res1 rfl rfl, rfl, hb4658⟩

theorem heldIntS_0 (n : Int) (a : Option Addr) (c : Nat) (w : World) : CallsR Try.prog 81 #[.slice a 0 c, .int .i64 n] w (fun v w' => v = .int .i64 n ∧ w.grownBy w' none) := by
 refine calls_of_wpf (n := 21) Try.func81 rfl Try.ntmps81 rfl ?_
 have hb0 := World.grownBy.refl w none
 refine wpf_seq_region ?_
 refine wpo_assign (v := .int .i64 0) rfl rfl ?_
 refine wpo_nil ?_
 refine wpf_seq ?_
 refine wpf_seq_region ?_
 refine wpo_assign (v := .int .i64 0) rfl rfl ?_
 refine wpo_nil ?_
 refine wpf_block ?_
 refine wpf_loopN (fun mm f' w' => mm = 0 ∧ f' 1 = .int .i64 n ∧ f' 5 = .int .i64 0 ∧ f' 0 = .slice a 0 c ∧ w.grownBy w' none) (0) ⟨rfl, rfl, rfl, rfl, hb0⟩ ?_
 rintro mm f4663 w4664 ⟨hm4666, e4667, e4668, e4669, hb4665⟩
 refine wpf_seq ?_
 refine wpf_seq_region ?_
 refine wpo_move (v := .int .i64 0) e4668 rfl ?_
 refine wpo_move (v := .slice a 0 c) e4669 rfl ?_
 refine wpo_len (by kernel_rfl) rfl rfl ?_
 refine wpo_lss (q := false) rfl rfl (by decide) rfl ?_
 refine wpo_nil ?_
 refine wpf_condf rfl rfl ?_
 refine wpf_exit ?_
 refine thn_e ?_
 refine thn_e ?_
 refine blk_e ?_
 refine thn_n ?_
 refine wpf_seq_region ?_
 refine wpo_move (v := .int .i64 n) e4667 rfl ?_
 refine wpo_assign (v := .int .i64 n) rfl rfl ?_
 refine wpo_nil ?_
 refine wpf_ret ?_
 refine ⟨.int .i64 n, res1 rfl rfl, rfl, hb4665⟩

theorem heldRightS_c (n : Int) (hn0 : 0 ≤ n ∧ n ≤ 1099511627776) (S sc : Nat) (xs : List Rt) (w : World) (hS : Dw.Own w S 29 5 sc xs.length (xs.flatMap Rt.cells)) (hl : xs.length ≤ 1048576) (hall : ∀ k : Nat, k < xs.length → xs[k]? = some (mkRt (n + 5 * (k : Int)))) : CallsR Try.prog 80 #[.slice (some ⟨S, 0, none⟩) xs.length sc, .int .i64 n] w (fun v w' => v = .int .i64 (n + 5 * (xs.length : Int)) ∧ w.grownBy w' none) := by
 refine calls_of_wpf (n := 64) Try.func80 rfl Try.ntmps80 rfl ?_
 have hb0 := World.grownBy.refl w none
 have hSlt := hS.lt
 refine wpf_seq_region ?_
 refine wpo_assign (v := .int .i64 0) rfl rfl ?_
 refine wpo_nil ?_
 refine wpf_seq ?_
 refine wpf_seq_region ?_
 refine wpo_assign (v := .int .i64 0) rfl rfl ?_
 refine wpo_nil ?_
 refine wpf_block ?_
 refine wpf_loopN (fun mm f' w' => ∃ (k : Nat), mm = xs.length - k ∧ k ≤ xs.length ∧ f' 1 = .int .i64 (n + 5 * (k : Int)) ∧ f' 5 = .int .i64 (k : Int) ∧ f' 0 = .slice (some ⟨S, 0, none⟩) xs.length sc ∧ w.grownBy w' none ∧ Dw.Own w' S 29 5 sc xs.length (xs.flatMap Rt.cells)) (xs.length - 0) ⟨0, rfl, (Nat.zero_le _), (congrArg (Value.int .i64) (by omega)), rfl, rfl, hb0, hS⟩ ?_
 rintro mm f4670 w4671 ⟨k, hm4673, hk, e4674, e4675, e4676, hb4672, k4677⟩
 refine wpf_seq ?_
 refine wpf_seq_region ?_
 refine wpo_move (v := .int .i64 (k : Int)) e4675 rfl ?_
 refine wpo_move (v := .slice (some ⟨S, 0, none⟩) xs.length sc) e4676 rfl ?_
 refine wpo_len (by kernel_rfl) rfl rfl ?_
 refine wpo_lss (q := decide ((k : Int) < (xs.length : Int))) rfl rfl rfl rfl ?_
 refine wpo_nil ?_
 refine wpf_cond rfl (fun h4678 => ?_) (fun h4678 => ?_)
 ·
  have h4679 := of_decide_eq_true h4678
  refine wpf_skip ?_
  refine thn_n ?_
  refine wpf_seq ?_
  refine wpf_block ?_
  refine wpf_seq ?_
  refine wpf_seq_region ?_
  refine wpo_move (v := .slice (some ⟨S, 0, none⟩) xs.length sc) e4676 rfl ?_
  refine wpo_move (v := .int .i64 (k : Int)) e4675 rfl ?_
  refine wpo_indexAddr (o' := k * 5) es_27 rfl rfl (by omega) (by omega) (by omega) rfl ?_
  refine wpo_fieldAddr (o' := k * 5) fo_29_0 rfl rfl rfl ?_
  refine wpo_load1 (v := .int .i64 (n + 5 * (k : Int))) ot_3 rfl ((Own.range wide_rt k4677 (hall k (by omega))) 0 _ rfl) rfl ?_
  refine wpo_move (v := .int .i64 (n + 5 * (k : Int))) e4674 rfl ?_
  refine wpo_neq (q := false) rfl rfl (by simp) rfl ?_
  refine wpo_nil ?_
  refine wpf_condf rfl rfl ?_
  refine wpf_skip ?_
  refine thn_n ?_
  refine wpf_seq_region ?_
  refine wpo_move (v := .int .i64 (n + 5 * (k : Int))) e4674 rfl ?_
  refine wpo_add (c := n + 5 * (k : Int) + 1) rfl rfl (by omega) (by omega) (by omega) rfl ?_
  refine wpo_assign (v := .int .i64 (n + 5 * (k : Int) + 1)) rfl rfl ?_
  refine wpo_nil ?_
  refine wpf_seq ?_
  refine wpf_seq_region ?_
  refine wpo_move (v := .slice (some ⟨S, 0, none⟩) xs.length sc) e4676 rfl ?_
  refine wpo_move (v := .int .i64 (k : Int)) e4675 rfl ?_
  refine wpo_indexAddr (o' := k * 5) es_27 rfl rfl (by omega) (by omega) (by omega) rfl ?_
  refine wpo_fieldAddr (o' := k * 5 + 1) fo_29_1 rfl rfl rfl ?_
  refine wpo_load1 (v := .int .i64 (n + 5 * (k : Int) + 1)) ot_3 rfl ((Own.range wide_rt k4677 (hall k (by omega))) 1 _ rfl) rfl ?_
  refine wpo_move (v := .int .i64 (n + 5 * (k : Int) + 1)) rfl rfl ?_
  refine wpo_neq (q := false) rfl rfl (by simp) rfl ?_
  refine wpo_nil ?_
  refine wpf_condf rfl rfl ?_
  refine wpf_skip ?_
  refine thn_n ?_
  refine wpf_seq_region ?_
  refine wpo_move (v := .int .i64 (n + 5 * (k : Int) + 1)) rfl rfl ?_
  refine wpo_add (c := n + 5 * (k : Int) + 1 + 1) rfl rfl (by omega) (by omega) (by omega) rfl ?_
  refine wpo_assign (v := .int .i64 (n + 5 * (k : Int) + 1 + 1)) rfl rfl ?_
  refine wpo_nil ?_
  refine wpf_seq ?_
  refine wpf_seq_region ?_
  refine wpo_move (v := .slice (some ⟨S, 0, none⟩) xs.length sc) e4676 rfl ?_
  refine wpo_move (v := .int .i64 (k : Int)) e4675 rfl ?_
  refine wpo_indexAddr (o' := k * 5) es_27 rfl rfl (by omega) (by omega) (by omega) rfl ?_
  refine wpo_fieldAddr (o' := k * 5 + 2) fo_29_2 rfl rfl rfl ?_
  refine wpo_load1 (v := .bool (decide ((n + 5 * (k : Int) + 1 + 1) % 3 = 0))) ot_4 rfl ((Own.range wide_rt k4677 (hall k (by omega))) 2 _ rfl) rfl ?_
  refine wpo_move (v := .int .i64 (n + 5 * (k : Int) + 1 + 1)) rfl rfl ?_
  refine wpo_rem (c := (n + 5 * (k : Int) + 1 + 1) % 3) rfl rfl (by omega) (by omega) (by omega) rfl rfl ?_
  refine wpo_eql (q := decide ((n + 5 * (k : Int) + 1 + 1) % 3 = 0)) rfl rfl rfl rfl ?_
  refine wpo_neqb (q := false) (by kernel_rfl) rfl rfl (by simp) rfl ?_
  refine wpo_nil ?_
  refine wpf_condf rfl rfl ?_
  refine wpf_skip ?_
  refine thn_n ?_
  refine wpf_seq_region ?_
  refine wpo_move (v := .int .i64 (n + 5 * (k : Int) + 1 + 1)) rfl rfl ?_
  refine wpo_add (c := n + 5 * (k : Int) + 1 + 1 + 1) rfl rfl (by omega) (by omega) (by omega) rfl ?_
  refine wpo_assign (v := .int .i64 (n + 5 * (k : Int) + 1 + 1 + 1)) rfl rfl ?_
  refine wpo_nil ?_
  refine wpf_seq ?_
  refine wpf_seq_region ?_
  refine wpo_move (v := .slice (some ⟨S, 0, none⟩) xs.length sc) e4676 rfl ?_
  refine wpo_move (v := .int .i64 (k : Int)) e4675 rfl ?_
  refine wpo_indexAddr (o' := k * 5) es_27 rfl rfl (by omega) (by omega) (by omega) rfl ?_
  refine wpo_fieldAddr (o' := k * 5 + 3) fo_29_3 rfl rfl rfl ?_
  refine wpo_load1 (v := .bool (decide ((n + 5 * (k : Int) + 1 + 1 + 1) % 3 = 0))) ot_4 rfl ((Own.range wide_rt k4677 (hall k (by omega))) 3 _ rfl) rfl ?_
  refine wpo_move (v := .int .i64 (n + 5 * (k : Int) + 1 + 1 + 1)) rfl rfl ?_
  refine wpo_rem (c := (n + 5 * (k : Int) + 1 + 1 + 1) % 3) rfl rfl (by omega) (by omega) (by omega) rfl rfl ?_
  refine wpo_eql (q := decide ((n + 5 * (k : Int) + 1 + 1 + 1) % 3 = 0)) rfl rfl rfl rfl ?_
  refine wpo_neqb (q := false) (by kernel_rfl) rfl rfl (by simp) rfl ?_
  refine wpo_nil ?_
  refine wpf_condf rfl rfl ?_
  refine wpf_skip ?_
  refine thn_n ?_
  refine wpf_seq_region ?_
  refine wpo_move (v := .int .i64 (n + 5 * (k : Int) + 1 + 1 + 1)) rfl rfl ?_
  refine wpo_add (c := n + 5 * (k : Int) + 1 + 1 + 1 + 1) rfl rfl (by omega) (by omega) (by omega) rfl ?_
  refine wpo_assign (v := .int .i64 (n + 5 * (k : Int) + 1 + 1 + 1 + 1)) rfl rfl ?_
  refine wpo_nil ?_
  refine wpf_seq ?_
  refine wpf_seq_region ?_
  refine wpo_move (v := .slice (some ⟨S, 0, none⟩) xs.length sc) e4676 rfl ?_
  refine wpo_move (v := .int .i64 (k : Int)) e4675 rfl ?_
  refine wpo_indexAddr (o' := k * 5) es_27 rfl rfl (by omega) (by omega) (by omega) rfl ?_
  refine wpo_fieldAddr (o' := k * 5 + 4) fo_29_4 rfl rfl rfl ?_
  refine wpo_load1 (v := .bool (decide ((n + 5 * (k : Int) + 1 + 1 + 1 + 1) % 3 = 0))) ot_4 rfl ((Own.range wide_rt k4677 (hall k (by omega))) 4 _ rfl) rfl ?_
  refine wpo_move (v := .int .i64 (n + 5 * (k : Int) + 1 + 1 + 1 + 1)) rfl rfl ?_
  refine wpo_rem (c := (n + 5 * (k : Int) + 1 + 1 + 1 + 1) % 3) rfl rfl (by omega) (by omega) (by omega) rfl rfl ?_
  refine wpo_eql (q := decide ((n + 5 * (k : Int) + 1 + 1 + 1 + 1) % 3 = 0)) rfl rfl rfl rfl ?_
  refine wpo_neqb (q := false) (by kernel_rfl) rfl rfl (by simp) rfl ?_
  refine wpo_nil ?_
  refine wpf_condf rfl rfl ?_
  refine wpf_skip ?_
  refine thn_n ?_
  refine wpf_region ?_
  refine wpo_move (v := .int .i64 (n + 5 * (k : Int) + 1 + 1 + 1 + 1)) rfl rfl ?_
  refine wpo_add (c := n + 5 * (k : Int) + 1 + 1 + 1 + 1 + 1) rfl rfl (by omega) (by omega) (by omega) rfl ?_
  refine wpo_assign (v := .int .i64 (n + 5 * (k : Int) + 1 + 1 + 1 + 1 + 1)) rfl rfl ?_
  refine wpo_nil ?_
  refine blk_n ?_
  refine thn_n ?_
  refine wpf_region ?_
  refine wpo_move (v := .int .i64 (k : Int)) e4675 rfl ?_
  refine wpo_add (c := (k : Int) + 1) rfl rfl (by omega) (by omega) (by omega) rfl ?_
  refine wpo_assign (v := .int .i64 ((k : Int) + 1)) rfl rfl ?_
  refine wpo_nil ?_
  refine thn_n ?_
  exact ⟨xs.length - (k + 1), by omega, (k + 1), rfl, (by omega), (congrArg (Value.int .i64) (by omega)), rfl, e4676, hb4672, k4677⟩
 ·
  have h4680 := of_decide_eq_false h4678
  refine wpf_exit ?_
  refine thn_e ?_
  refine thn_e ?_
  refine blk_e ?_
  refine thn_n ?_
  refine wpf_seq_region ?_
  refine wpo_move (v := .int .i64 (n + 5 * (k : Int))) e4674 rfl ?_
  refine wpo_assign (v := .int .i64 (n + 5 * (k : Int))) rfl rfl ?_
  refine wpo_nil ?_
  refine wpf_ret ?_
  refine ⟨.int .i64 (n + 5 * (k : Int)), res1 rfl rfl, congrArg (Value.int .i64) (by omega), hb4672⟩

theorem heldIntS_c (n : Int) (hn0 : 0 ≤ n ∧ n ≤ 1099511627776) (S sc : Nat) (xs : List Int) (w : World) (hS : Dw.Own w S 3 1 sc xs.length (xs.flatMap icell)) (hl : xs.length ≤ 1048576) (hall : ∀ k : Nat, k < xs.length → xs[k]? = some (n + (k : Int))) : CallsR Try.prog 81 #[.slice (some ⟨S, 0, none⟩) xs.length sc, .int .i64 n] w (fun v w' => v = .int .i64 (n + (xs.length : Int)) ∧ w.grownBy w' none) := by
 refine calls_of_wpf (n := 21) Try.func81 rfl Try.ntmps81 rfl ?_
 have hb0 := World.grownBy.refl w none
 have hSlt := hS.lt
 refine wpf_seq_region ?_
 refine wpo_assign (v := .int .i64 0) rfl rfl ?_
 refine wpo_nil ?_
 refine wpf_seq ?_
 refine wpf_seq_region ?_
 refine wpo_assign (v := .int .i64 0) rfl rfl ?_
 refine wpo_nil ?_
 refine wpf_block ?_
 refine wpf_loopN (fun mm f' w' => ∃ (k : Nat), mm = xs.length - k ∧ k ≤ xs.length ∧ f' 1 = .int .i64 (n + (k : Int)) ∧ f' 5 = .int .i64 (k : Int) ∧ f' 0 = .slice (some ⟨S, 0, none⟩) xs.length sc ∧ w.grownBy w' none ∧ Dw.Own w' S 3 1 sc xs.length (xs.flatMap icell)) (xs.length - 0) ⟨0, rfl, (Nat.zero_le _), (congrArg (Value.int .i64) (by omega)), rfl, rfl, hb0, hS⟩ ?_
 rintro mm f4681 w4682 ⟨k, hm4684, hk, e4685, e4686, e4687, hb4683, k4688⟩
 refine wpf_seq ?_
 refine wpf_seq_region ?_
 refine wpo_move (v := .int .i64 (k : Int)) e4686 rfl ?_
 refine wpo_move (v := .slice (some ⟨S, 0, none⟩) xs.length sc) e4687 rfl ?_
 refine wpo_len (by kernel_rfl) rfl rfl ?_
 refine wpo_lss (q := decide ((k : Int) < (xs.length : Int))) rfl rfl rfl rfl ?_
 refine wpo_nil ?_
 refine wpf_cond rfl (fun h4689 => ?_) (fun h4689 => ?_)
 ·
  have h4690 := of_decide_eq_true h4689
  refine wpf_skip ?_
  refine thn_n ?_
  refine wpf_seq ?_
  refine wpf_block ?_
  refine wpf_seq ?_
  refine wpf_seq_region ?_
  refine wpo_move (v := .slice (some ⟨S, 0, none⟩) xs.length sc) e4687 rfl ?_
  refine wpo_move (v := .int .i64 (k : Int)) e4686 rfl ?_
  refine wpo_indexAddr (o' := k * 1) es_43 rfl rfl (by omega) (by omega) (by omega) rfl ?_
  refine wpo_load1 (v := .int .i64 (n + (k : Int))) ot_3 rfl ((Own.range wide_int k4688 (hall k (by omega))) 0 _ rfl) rfl ?_
  refine wpo_move (v := .int .i64 (n + (k : Int))) e4685 rfl ?_
  refine wpo_neq (q := false) rfl rfl (by simp) rfl ?_
  refine wpo_nil ?_
  refine wpf_condf rfl rfl ?_
  refine wpf_skip ?_
  refine thn_n ?_
  refine wpf_region ?_
  refine wpo_move (v := .int .i64 (n + (k : Int))) e4685 rfl ?_
  refine wpo_add (c := n + (k : Int) + 1) rfl rfl (by omega) (by omega) (by omega) rfl ?_
  refine wpo_assign (v := .int .i64 (n + (k : Int) + 1)) rfl rfl ?_
  refine wpo_nil ?_
  refine blk_n ?_
  refine thn_n ?_
  refine wpf_region ?_
  refine wpo_move (v := .int .i64 (k : Int)) e4686 rfl ?_
  refine wpo_add (c := (k : Int) + 1) rfl rfl (by omega) (by omega) (by omega) rfl ?_
  refine wpo_assign (v := .int .i64 ((k : Int) + 1)) rfl rfl ?_
  refine wpo_nil ?_
  refine thn_n ?_
  exact ⟨xs.length - (k + 1), by omega, (k + 1), rfl, (by omega), (congrArg (Value.int .i64) (by omega)), rfl, e4687, hb4683, k4688⟩
 ·
  have h4691 := of_decide_eq_false h4689
  refine wpf_exit ?_
  refine thn_e ?_
  refine thn_e ?_
  refine blk_e ?_
  refine thn_n ?_
  refine wpf_seq_region ?_
  refine wpo_move (v := .int .i64 (n + (k : Int))) e4685 rfl ?_
  refine wpo_assign (v := .int .i64 (n + (k : Int))) rfl rfl ?_
  refine wpo_nil ?_
  refine wpf_ret ?_
  refine ⟨.int .i64 (n + (k : Int)), res1 rfl rfl, congrArg (Value.int .i64) (by omega), hb4683⟩

theorem markThing_y (k ve num to : Int) (l : Lab) (S sc : Nat) (w : World) (hS : Dw.Own w S 29 5 sc 4 (zeros4.flatMap Rt.cells)) : CallsR Try.prog 29 #[.agg #[.int .i64 k, .int .i64 l.s, .int .i64 l.v, .int .i64 ve, .int .i64 num, .slice (some ⟨S, 0, none⟩) 4 sc, .slice none 0 0, .int .i64 to], .int .i64 1] w (fun v w' => v = .int .i64 21 ∧ Dw.Own w' S 29 5 sc 4 (((List.range zeros4.length).map (fun i : Nat => mkRt (1 + 5 * (i : Int)))).flatMap Rt.cells) ∧ w.grownBy w' (some S)) := by
 refine calls_of_wpf (n := 14) Try.func29 rfl Try.ntmps29 rfl ?_
 have hb0 := World.grownBy.refl w (some S)
 have hSlt := hS.lt
 refine wpf_seq_region ?_
 refine wpo_box (v := .agg #[.int .i64 k, .int .i64 l.s, .int .i64 l.v, .int .i64 ve, .int .i64 num, .slice (some ⟨S, 0, none⟩) 4 sc, .slice none 0 0, .int .i64 to]) (cs := #[.int .i64 k, .int .i64 l.s, .int .i64 l.v, .int .i64 ve, .int .i64 num, .slice (some ⟨S, 0, none⟩) 4 sc, .slice none 0 0, .int .i64 to]) rfl rfl rfl ?_
 intro B4692 w4693 hN4694
 have hlB4692 := hN_ge hN4694 hb0
 have lt_S_B4692 := hN_gtl hN4694 (hS).lt
 have hb4695 := low0 hb0 hN4694.grw
 refine wpo_assign (v := .int .i64 0) rfl rfl ?_
 refine wpo_nil ?_
 refine wpf_seq_region ?_
 refine wpo_fieldAddr (o' := 5) fo_45_4 rfl rfl rfl ?_
 refine wpo_load1 (v := .slice (some ⟨S, 0, none⟩) 4 sc) ot_27 rfl (hN4694.blk.cell rfl) rfl ?_
 refine wpo_move (v := .int .i64 1) rfl rfl ?_
 have k4696 := (hS.grown0 hN4694.grw)
 refine wpo_call (vs := [.slice (some ⟨S, 0, none⟩) 4 sc, .int .i64 1]) gf_78 (args_cons rfl (args_cons rfl args_nil)) rfl (markRightS_c 1 (by omega) S sc zeros4 _ k4696 (by first | omega | exact Nat.le_of_ble_eq_true rfl | (simp only [List.length_nil, List.length_cons, List.length_append, List.length_replicate]; omega))) ?_
 rintro _ w4697 ⟨rfl, hO4699, hg4698⟩
 have hb4700 := grown_trans hb4695 hg4698
 refine wpo_assign (v := .int .i64 (1 + 5 * (zeros4.length : Int))) rfl rfl ?_
 refine wpo_nil ?_
 refine wpf_seq_region ?_
 refine wpo_fieldAddr (o' := 6) fo_45_5 rfl rfl rfl ?_
 have k4701 := (hN4694.blk.grown hg4698 (some_ne (by omega)))
 refine wpo_load1 (v := .slice none 0 0) ot_43 rfl (k4701.cell rfl) rfl ?_
 refine wpo_move (v := .int .i64 (1 + 5 * (zeros4.length : Int))) rfl rfl ?_
 refine wpo_call (vs := [.slice none 0 0, .int .i64 (1 + 5 * (zeros4.length : Int))]) gf_79 (args_cons rfl (args_cons rfl args_nil)) rfl (markIntS_0 (1 + 5 * (zeros4.length : Int)) _ _ _) ?_
 rintro _ w4702 ⟨rfl, hg4703⟩
 have hb4704 := low0 hb4700 hg4703
 refine wpo_assign (v := .int .i64 (1 + 5 * (zeros4.length : Int))) rfl rfl ?_
 refine wpo_nil ?_
 refine wpf_seq_region ?_
 refine wpo_move (v := .int .i64 (1 + 5 * (zeros4.length : Int))) rfl rfl ?_
 refine wpo_assign (v := .int .i64 (1 + 5 * (zeros4.length : Int))) rfl rfl ?_
 refine wpo_nil ?_
 refine wpf_ret ?_
 have k4705 := (hO4699.grown0 hg4703)
 refine ⟨.int .i64 (1 + 5 * (zeros4.length : Int)), res1 rfl rfl, congrArg (Value.int .i64) (by simp [zeros4]), k4705, hb4704⟩

theorem markThing_n (k ve num to : Int) (l : Lab) (w : World) : CallsR Try.prog 29 #[.agg #[.int .i64 k, .int .i64 l.s, .int .i64 l.v, .int .i64 ve, .int .i64 num, .slice none 0 0, .slice none 0 0, .int .i64 to], .int .i64 1] w (fun v w' => v = .int .i64 1 ∧ w.grownBy w' none) := by
 refine calls_of_wpf (n := 14) Try.func29 rfl Try.ntmps29 rfl ?_
 have hb0 := World.grownBy.refl w none
 refine wpf_seq_region ?_
 refine wpo_box (v := .agg #[.int .i64 k, .int .i64 l.s, .int .i64 l.v, .int .i64 ve, .int .i64 num, .slice none 0 0, .slice none 0 0, .int .i64 to]) (cs := #[.int .i64 k, .int .i64 l.s, .int .i64 l.v, .int .i64 ve, .int .i64 num, .slice none 0 0, .slice none 0 0, .int .i64 to]) rfl rfl rfl ?_
 intro B4706 w4707 hN4708
 have hlB4706 := hN_ge hN4708 hb0
 have hb4709 := low0 hb0 hN4708.grw
 refine wpo_assign (v := .int .i64 0) rfl rfl ?_
 refine wpo_nil ?_
 refine wpf_seq_region ?_
 refine wpo_fieldAddr (o' := 5) fo_45_4 rfl rfl rfl ?_
 refine wpo_load1 (v := .slice none 0 0) ot_27 rfl (hN4708.blk.cell rfl) rfl ?_
 refine wpo_move (v := .int .i64 1) rfl rfl ?_
 refine wpo_call (vs := [.slice none 0 0, .int .i64 1]) gf_78 (args_cons rfl (args_cons rfl args_nil)) rfl (markRightS_0 1 _ _ _) ?_
 rintro _ w4710 ⟨rfl, hg4711⟩
 have hb4712 := low0 hb4709 hg4711
 refine wpo_assign (v := .int .i64 1) rfl rfl ?_
 refine wpo_nil ?_
 refine wpf_seq_region ?_
 refine wpo_fieldAddr (o' := 6) fo_45_5 rfl rfl rfl ?_
 have k4713 := (hN4708.blk.grown0 hg4711)
 refine wpo_load1 (v := .slice none 0 0) ot_43 rfl (k4713.cell rfl) rfl ?_
 refine wpo_move (v := .int .i64 1) rfl rfl ?_
 refine wpo_call (vs := [.slice none 0 0, .int .i64 1]) gf_79 (args_cons rfl (args_cons rfl args_nil)) rfl (markIntS_0 1 _ _ _) ?_
 rintro _ w4714 ⟨rfl, hg4715⟩
 have hb4716 := low0 hb4712 hg4715
 refine wpo_assign (v := .int .i64 1) rfl rfl ?_
 refine wpo_nil ?_
 refine wpf_seq_region ?_
 refine wpo_move (v := .int .i64 1) rfl rfl ?_
 refine wpo_assign (v := .int .i64 1) rfl rfl ?_
 refine wpo_nil ?_
 refine wpf_ret ?_
 refine ⟨.int .i64 1, res1 rfl rfl, rfl, hb4716⟩

theorem heldThing_y (k ve num to : Int) (l : Lab) (S sc : Nat) (w : World) (hS : Dw.Own w S 29 5 sc 4 (((List.range zeros4.length).map (fun i : Nat => mkRt (1 + 5 * (i : Int)))).flatMap Rt.cells)) : CallsR Try.prog 30 #[.agg #[.int .i64 k, .int .i64 l.s, .int .i64 l.v, .int .i64 ve, .int .i64 num, .slice (some ⟨S, 0, none⟩) 4 sc, .slice none 0 0, .int .i64 to], .int .i64 1] w (fun v w' => v = .int .i64 21 ∧ w.grownBy w' none) := by
 refine calls_of_wpf (n := 18) Try.func30 rfl Try.ntmps30 rfl ?_
 have hb0 := World.grownBy.refl w none
 have hSlt := hS.lt
 refine wpf_seq_region ?_
 refine wpo_box (v := .agg #[.int .i64 k, .int .i64 l.s, .int .i64 l.v, .int .i64 ve, .int .i64 num, .slice (some ⟨S, 0, none⟩) 4 sc, .slice none 0 0, .int .i64 to]) (cs := #[.int .i64 k, .int .i64 l.s, .int .i64 l.v, .int .i64 ve, .int .i64 num, .slice (some ⟨S, 0, none⟩) 4 sc, .slice none 0 0, .int .i64 to]) rfl rfl rfl ?_
 intro B4717 w4718 hN4719
 have hlB4717 := hN_ge hN4719 hb0
 have lt_S_B4717 := hN_gtl hN4719 (hS).lt
 have hb4720 := low0 hb0 hN4719.grw
 refine wpo_assign (v := .int .i64 0) rfl rfl ?_
 refine wpo_nil ?_
 refine wpf_seq_region ?_
 refine wpo_fieldAddr (o' := 5) fo_45_4 rfl rfl rfl ?_
 refine wpo_load1 (v := .slice (some ⟨S, 0, none⟩) 4 sc) ot_27 rfl (hN4719.blk.cell rfl) rfl ?_
 refine wpo_move (v := .int .i64 1) rfl rfl ?_
 have k4721 := (hS.grown0 hN4719.grw)
 refine wpo_call (vs := [.slice (some ⟨S, 0, none⟩) 4 sc, .int .i64 1]) gf_80 (args_cons rfl (args_cons rfl args_nil)) rfl (heldRightS_c 1 (by omega) S sc ((List.range zeros4.length).map (fun i : Nat => mkRt (1 + 5 * (i : Int)))) _ k4721 (by simp; first | omega | exact Nat.le_of_ble_eq_true rfl | (simp only [List.length_nil, List.length_cons, List.length_append, List.length_replicate]; omega)) (fun k hk => marks_get (by simpa using hk))) ?_
 rintro _ w4722 ⟨rfl, hg4723⟩
 have hb4724 := low0 hb4720 hg4723
 refine wpo_assign (v := .int .i64 (1 + 5 * (zeros4.length : Int))) (congrArg (Value.int .i64) (by simp)) rfl ?_
 refine wpo_nil ?_
 refine wpf_seq ?_
 refine wpf_seq_region ?_
 refine wpo_move (v := .int .i64 (1 + 5 * (zeros4.length : Int))) rfl rfl ?_
 refine wpo_lss (q := decide (1 + 5 * (zeros4.length : Int) < 0)) rfl rfl rfl rfl ?_
 refine wpo_nil ?_
 have h4725 : decide (1 + 5 * (zeros4.length : Int) < 0) = false := decide_eq_false (by omega)
 have h4726 := of_decide_eq_false h4725
 refine wpf_condf rfl h4725 ?_
 refine wpf_skip ?_
 refine thn_n ?_
 refine wpf_seq_region ?_
 refine wpo_fieldAddr (o' := 6) fo_45_5 rfl rfl rfl ?_
 have k4727 := (hN4719.blk.grown0 hg4723)
 refine wpo_load1 (v := .slice none 0 0) ot_43 rfl (k4727.cell rfl) rfl ?_
 refine wpo_move (v := .int .i64 (1 + 5 * (zeros4.length : Int))) rfl rfl ?_
 refine wpo_call (vs := [.slice none 0 0, .int .i64 (1 + 5 * (zeros4.length : Int))]) gf_81 (args_cons rfl (args_cons rfl args_nil)) rfl (heldIntS_0 (1 + 5 * (zeros4.length : Int)) _ _ _) ?_
 rintro _ w4728 ⟨rfl, hg4729⟩
 have hb4730 := low0 hb4724 hg4729
 refine wpo_assign (v := .int .i64 (1 + 5 * (zeros4.length : Int))) rfl rfl ?_
 refine wpo_nil ?_
 refine wpf_seq ?_
 refine wpf_seq_region ?_
 refine wpo_move (v := .int .i64 (1 + 5 * (zeros4.length : Int))) rfl rfl ?_
 refine wpo_lss (q := decide (1 + 5 * (zeros4.length : Int) < 0)) rfl rfl rfl rfl ?_
 refine wpo_nil ?_
 refine wpf_condf rfl h4725 ?_
 refine wpf_skip ?_
 refine thn_n ?_
 refine wpf_seq_region ?_
 refine wpo_move (v := .int .i64 (1 + 5 * (zeros4.length : Int))) rfl rfl ?_
 refine wpo_assign (v := .int .i64 (1 + 5 * (zeros4.length : Int))) rfl rfl ?_
 refine wpo_nil ?_
 refine wpf_ret ?_
 refine ⟨.int .i64 (1 + 5 * (zeros4.length : Int)), res1 rfl rfl, congrArg (Value.int .i64) (by simp [zeros4]), hb4730⟩

theorem heldThing_n (k ve num to : Int) (l : Lab) (w : World) : CallsR Try.prog 30 #[.agg #[.int .i64 k, .int .i64 l.s, .int .i64 l.v, .int .i64 ve, .int .i64 num, .slice none 0 0, .slice none 0 0, .int .i64 to], .int .i64 1] w (fun v w' => v = .int .i64 1 ∧ w.grownBy w' none) := by
 refine calls_of_wpf (n := 18) Try.func30 rfl Try.ntmps30 rfl ?_
 have hb0 := World.grownBy.refl w none
 refine wpf_seq_region ?_
 refine wpo_box (v := .agg #[.int .i64 k, .int .i64 l.s, .int .i64 l.v, .int .i64 ve, .int .i64 num, .slice none 0 0, .slice none 0 0, .int .i64 to]) (cs := #[.int .i64 k, .int .i64 l.s, .int .i64 l.v, .int .i64 ve, .int .i64 num, .slice none 0 0, .slice none 0 0, .int .i64 to]) rfl rfl rfl ?_
 intro B4731 w4732 hN4733
 have hlB4731 := hN_ge hN4733 hb0
 have hb4734 := low0 hb0 hN4733.grw
 refine wpo_assign (v := .int .i64 0) rfl rfl ?_
 refine wpo_nil ?_
 refine wpf_seq_region ?_
 refine wpo_fieldAddr (o' := 5) fo_45_4 rfl rfl rfl ?_
 refine wpo_load1 (v := .slice none 0 0) ot_27 rfl (hN4733.blk.cell rfl) rfl ?_
 refine wpo_move (v := .int .i64 1) rfl rfl ?_
 refine wpo_call (vs := [.slice none 0 0, .int .i64 1]) gf_80 (args_cons rfl (args_cons rfl args_nil)) rfl (heldRightS_0 1 _ _ _) ?_
 rintro _ w4735 ⟨rfl, hg4736⟩
 have hb4737 := low0 hb4734 hg4736
 refine wpo_assign (v := .int .i64 1) rfl rfl ?_
 refine wpo_nil ?_
 refine wpf_seq ?_
 refine wpf_seq_region ?_
 refine wpo_move (v := .int .i64 1) rfl rfl ?_
 refine wpo_lss (q := false) rfl rfl (by decide) rfl ?_
 refine wpo_nil ?_
 refine wpf_condf rfl rfl ?_
 refine wpf_skip ?_
 refine thn_n ?_
 refine wpf_seq_region ?_
 refine wpo_fieldAddr (o' := 6) fo_45_5 rfl rfl rfl ?_
 have k4738 := (hN4733.blk.grown0 hg4736)
 refine wpo_load1 (v := .slice none 0 0) ot_43 rfl (k4738.cell rfl) rfl ?_
 refine wpo_move (v := .int .i64 1) rfl rfl ?_
 refine wpo_call (vs := [.slice none 0 0, .int .i64 1]) gf_81 (args_cons rfl (args_cons rfl args_nil)) rfl (heldIntS_0 1 _ _ _) ?_
 rintro _ w4739 ⟨rfl, hg4740⟩
 have hb4741 := low0 hb4737 hg4740
 refine wpo_assign (v := .int .i64 1) rfl rfl ?_
 refine wpo_nil ?_
 refine wpf_seq ?_
 refine wpf_seq_region ?_
 refine wpo_move (v := .int .i64 1) rfl rfl ?_
 refine wpo_lss (q := false) rfl rfl (by decide) rfl ?_
 refine wpo_nil ?_
 refine wpf_condf rfl rfl ?_
 refine wpf_skip ?_
 refine thn_n ?_
 refine wpf_seq_region ?_
 refine wpo_move (v := .int .i64 1) rfl rfl ?_
 refine wpo_assign (v := .int .i64 1) rfl rfl ?_
 refine wpo_nil ?_
 refine wpf_ret ?_
 refine ⟨.int .i64 1, res1 rfl rfl, rfl, hb4741⟩

end Go.Proofs.Ytlkmdoebmklbbaa
