/- Walks, printed by a program of mine (gen.py) out of the functions. -/
import Derived.Test.YtlkmdoebmklbbaaRU3
namespace Go.Proofs.Ytlkmdoebmklbbaa
open Go.RowKit Go.Dw
set_option maxRecDepth 100000
set_option maxHeartbeats 4000000
set_option linter.unusedSimpArgs false
set_option linter.unusedVariables false
theorem l71Call_c (p : Int) (hp : 0 ≤ p ∧ p ≤ 999999980000) (lo R : Nat) (bs : List Int) (a : Option Addr) (c : Nat) (w : World) (hR : Blk w R 121 #[.slice a bs.length c, .int .i64 p]) (hlo : lo ≤ R) (hs : SlLt lo w a 1 (bs.map bcell)) (hb : ∀ b ∈ bs, 0 ≤ b ∧ b ≤ 255) (hn : bs.length ≤ 1048576) (ms : List MTh) (ta : Option Addr) (tc tlo : Nat) (hG : TabG tlo w ta ms) (hRl : R < tlo) (hlen : TabLen ms) (hmn : 1 ≤ ms.length ∧ ms.length ≤ 8) : CallsR Try.prog 111 #[.pointer (some ⟨R, 0, none⟩), .slice ta ms.length tc] w (fun v w' => ∃ (q : Cl) (p' : Int), v = .agg #[.int .i64 q.kind, .int .i64 q.run, .int .i64 q.a, .int .i64 q.b, .int .i64 q.n] ∧ ((0 ≤ q.kind ∧ q.kind ≤ 10) ∧ (1 ≤ q.run ∧ q.run ≤ (ms.length : Int)) ∧ (-1 ≤ q.a ∧ q.a ≤ 4) ∧ (0 ≤ q.b ∧ q.b ≤ 3) ∧ -1 ≤ q.n ∧ q.n ≤ 100) ∧ p ≤ p' ∧ p' ≤ p + 60 ∧ Blk w' R 121 #[.slice a bs.length c, .int .i64 p'] ∧ w.grownBy w' (some R)) := by
 refine calls_of_wpf (n := 114) Try.func111 rfl Try.ntmps111 rfl ?_
 have hb0 := World.grownBy.refl w (some R)
 have hRlt := hR.lt
 obtain ⟨hi, hhi⟩ : ∃ n, n = w.heap.size := ⟨_, rfl⟩
 have hTH := TabG.hi hG
 rw [← hhi] at hTH
 refine wpf_seq_region ?_
 refine wpo_alloc (cs := #[.int .i64 0, .int .i64 0, .int .i64 0, .int .i64 0, .int .i64 0]) zt_76 rfl rfl ?_
 intro B101 w102 hN103
 have hlB101 := hN_ge hN103 hb0
 have hhiB101 : hi ≤ B101 := Nat.le_trans (Nat.le_of_eq hhi) (Nat.le_of_eq hN103.eq.symm)
 have lt_R_B101 := hN_gtl hN103 (hR).lt
 have hb104 := low0 hb0 hN103.grw
 refine wpo_nil ?_
 refine wpf_seq_region ?_
 refine wpo_move (v := .pointer (some ⟨R, 0, none⟩)) rfl rfl ?_
 have k105 := (hR.grown0 hN103.grw)
 refine wpo_call (vs := [.pointer (some ⟨R, 0, none⟩), .int .i64 9]) gf_60 (args_cons rfl (args_cons rfl args_nil)) rfl (pick_c p 9 (by omega) _ R bs _ _ _ k105 (by omega) (SlLt.low1 hs hb104 hlo) (by first | exact hb | exact fun b h => hb b (List.mem_of_mem_take h)) (by first | omega | (rw [List.length_take]; omega))) ?_
 rintro _ w111 ⟨k106, rfl, hk107, hk108, kR109, hg110⟩
 have hb112 := grown_trans hb104 hg110
 refine wpo_add (c := 1 + k106) rfl rfl (by omega) (by omega) (by omega) rfl ?_
 refine wpo_move (v := .pointer (some ⟨R, 0, none⟩)) rfl rfl ?_
 refine wpo_move (v := .slice ta ms.length tc) rfl rfl ?_
 have hTG113 := (TabG.lt (TabG.low hG hN103.grw) hg110 (by omega))
 refine wpo_call (vs := [.pointer (some ⟨R, 0, none⟩), .slice ta ms.length tc]) gf_117 (args_cons rfl (args_cons rfl args_nil)) rfl (l71Run_c (p + 1) (by omega) _ R bs _ _ _ kR109 (by omega) (SlLt.low1 hs hb112 hlo) (by first | exact hb | exact fun b h => hb b (List.mem_of_mem_take h)) (by first | omega | (rw [List.length_take]; omega)) ms _ _ _ hTG113 (by omega) hlen (by omega)) ?_
 rintro _ w120 ⟨k114, p115, rfl, hq121, hp116, hp117, kR118, hg119⟩
 have hb122 := grown_trans hb112 hg119
 refine wpo_move (v := .pointer (some ⟨R, 0, none⟩)) rfl rfl ?_
 refine wpo_call (vs := [.pointer (some ⟨R, 0, none⟩), .int .i64 4]) gf_60 (args_cons rfl (args_cons rfl args_nil)) rfl (pick_c p115 4 (by omega) _ R bs _ _ _ kR118 (by omega) (SlLt.low1 hs hb122 hlo) (by first | exact hb | exact fun b h => hb b (List.mem_of_mem_take h)) (by first | omega | (rw [List.length_take]; omega))) ?_
 rintro _ w128 ⟨k123, rfl, hk124, hk125, kR126, hg127⟩
 have hb129 := grown_trans hb122 hg127
 refine wpo_move (v := .pointer (some ⟨R, 0, none⟩)) rfl rfl ?_
 refine wpo_call (vs := [.pointer (some ⟨R, 0, none⟩), .int .i64 4]) gf_60 (args_cons rfl (args_cons rfl args_nil)) rfl (pick_c (p115 + 1) 4 (by omega) _ R bs _ _ _ kR126 (by omega) (SlLt.low1 hs hb129 hlo) (by first | exact hb | exact fun b h => hb b (List.mem_of_mem_take h)) (by first | omega | (rw [List.length_take]; omega))) ?_
 rintro _ w135 ⟨k130, rfl, hk131, hk132, kR133, hg134⟩
 have hb136 := grown_trans hb129 hg134
 refine wpo_move (v := .pointer (some ⟨R, 0, none⟩)) rfl rfl ?_
 refine wpo_call (vs := [.pointer (some ⟨R, 0, none⟩), .int .i64 20]) gf_60 (args_cons rfl (args_cons rfl args_nil)) rfl (pick_c (p115 + 1 + 1) 20 (by omega) _ R bs _ _ _ kR133 (by omega) (SlLt.low1 hs hb136 hlo) (by first | exact hb | exact fun b h => hb b (List.mem_of_mem_take h)) (by first | omega | (rw [List.length_take]; omega))) ?_
 rintro _ w142 ⟨k137, rfl, hk138, hk139, kR140, hg141⟩
 have hb143 := grown_trans hb136 hg141
 refine wpo_build (ps := [(0, .int .i64 (1 + k106)), (1, .int .i64 k114), (2, .int .i64 k123), (3, .int .i64 k130), (4, .int .i64 k137)]) (v := .agg #[.int .i64 (1 + k106), .int .i64 k114, .int .i64 k123, .int .i64 k130, .int .i64 k137]) (parts_cons rfl (parts_cons rfl (parts_cons rfl (parts_cons rfl (parts_cons rfl parts_nil))))) (by kernel_rfl) rfl ?_
 refine wpo_alloc (cs := #[.int .i64 0, .int .i64 0, .int .i64 0, .int .i64 0, .int .i64 0]) zt_76 rfl rfl ?_
 intro B144 w145 hN146
 have hlB144 := hN_ge hN146 hb143
 have hhiB144 : hi ≤ B144 := Nat.le_trans (Nat.le_trans (Nat.le_trans (Nat.le_trans (Nat.le_trans (Nat.le_trans (Nat.le_trans (Nat.le_of_eq hhi) hN103.grw.size) hg110.size) hg119.size) hg127.size) hg134.size) hg141.size) (Nat.le_of_eq hN146.eq.symm)
 have lt_R_B144 := hN_gtl hN146 (kR140).lt
 have k147 := (((((hN103.blk.grown hg110 (some_ne (by omega))).grown hg119 (some_ne (by omega))).grown hg127 (some_ne (by omega))).grown hg134 (some_ne (by omega))).grown hg141 (some_ne (by omega)))
 have lt_B101_B144 := hN_gtl hN146 (k147).lt
 have hb148 := low0 hb143 hN146.grw
 refine wpo_storen (vs := [.int .i64 (1 + k106), .int .i64 k114, .int .i64 k123, .int .i64 k130, .int .i64 k137]) (cs' := #[.int .i64 (1 + k106), .int .i64 k114, .int .i64 k123, .int .i64 k130, .int .i64 k137]) rt_76 rfl rfl rfl (by simp [Value.oneCell']) hN146.blk (Nat.le_of_ble_eq_true rfl) rfl ?_
 intro w149 hS150
 have hb151 := low1 hb148 hS150.grw (by omega)
 refine wpo_nil ?_
 refine wpf_seq ?_
 refine wpf_seq_region ?_
 refine wpo_assign (v := .int .i64 0) rfl rfl ?_
 refine wpo_nil ?_
 refine wpf_block ?_
 have hTG152 := (TabG.ge (TabG.low (TabG.lt (TabG.lt (TabG.lt (TabG.lt hTG113 hg119 (by omega)) hg127 (by omega)) hg134 (by omega)) hg141 (by omega)) hN146.grw) hS150.grw hTH (by omega))
 have k153 := ((k147.grown0 hN146.grw).grown hS150.grw (some_ne (by omega)))
 have k154 := ((kR140.grown0 hN146.grw).grown hS150.grw (some_ne (by omega)))
 refine wpf_loopN (fun mm f' w' => ∃ (i : Nat) (p1 : Int) (kk : Int) (aa : Int), mm = 6 - i ∧ i ≤ 6 ∧ (p115 + 1 + 1 + 1 ≤ p1 ∧ p1 ≤ (p115 + 1 + 1 + 1) + 3 * (i : Int)) ∧ (1 ≤ kk ∧ kk ≤ 9) ∧ (0 ≤ aa ∧ aa ≤ 3) ∧ TabG tlo w' ta ms ∧ hi ≤ w'.heap.size ∧ f' 6 = .int .i64 (i : Int) ∧ f' 0 = .pointer (some ⟨R, 0, none⟩) ∧ f' 1 = .slice ta ms.length tc ∧ f' 4 = .pointer (some ⟨B101, 0, none⟩) ∧ f' 5 = .pointer (some ⟨B144, 0, none⟩) ∧ w.grownBy w' (some R) ∧ Blk w' B101 76 #[.int .i64 0, .int .i64 0, .int .i64 0, .int .i64 0, .int .i64 0] ∧ Blk w' B144 76 #[.int .i64 kk, .int .i64 k114, .int .i64 aa, .int .i64 k130, .int .i64 k137] ∧ Blk w' R 121 #[.slice a bs.length c, .int .i64 p1]) (6 - 0) ⟨0, (p115 + 1 + 1 + 1), (1 + k106), k123, rfl, (Nat.zero_le _), (by omega), (by omega), (by omega), hTG152, (Nat.le_trans (Nat.le_trans (Nat.le_trans (Nat.le_trans (Nat.le_trans (Nat.le_trans (Nat.le_trans (Nat.le_trans (Nat.le_of_eq hhi) hN103.grw.size) hg110.size) hg119.size) hg127.size) hg134.size) hg141.size) hN146.grw.size) hS150.grw.size), rfl, rfl, rfl, rfl, rfl, hb151, k153, hS150.blk, k154⟩ ?_
 rintro mm f155 w156 ⟨i, p1, kk, aa, hm158, hi6, hpp, hkk, haa, hGl, hhs, e159, e160, e161, e162, e163, hb157, k164, k165, k166⟩
 refine wpf_seq ?_
 refine wpf_seq_region ?_
 refine wpo_move (v := .int .i64 (i : Int)) e159 rfl ?_
 refine wpo_lss (q := decide ((i : Int) < 6)) rfl rfl rfl rfl ?_
 refine wpo_move (v := .bool (decide ((i : Int) < 6))) rfl rfl ?_
 rcases bcases (decide ((i : Int) < 6)) with h190 | h190
 ·
  have h191 := of_decide_eq_true h190
  refine wpo_run rfl rfl rfl h190 ?_
  refine wpo_move (v := .pointer (some ⟨R, 0, none⟩)) e160 rfl ?_
  refine wpo_run rfl rfl rfl h190 ?_
  refine wpo_call (vs := [.pointer (some ⟨R, 0, none⟩), .int .i64 6]) gf_60 (args_cons rfl (args_cons rfl args_nil)) rfl (pick_c p1 6 (by omega) _ R bs _ _ _ k166 (by omega) (SlLt.low1 hs hb157 hlo) (by first | exact hb | exact fun b h => hb b (List.mem_of_mem_take h)) (by first | omega | (rw [List.length_take]; omega))) ?_
  rintro _ w197 ⟨k192, rfl, hk193, hk194, kR195, hg196⟩
  have hb198 := grown_trans hb157 hg196
  refine wpo_run rfl rfl rfl h190 ?_
  refine wpo_gtr (q := decide (0 < k192)) rfl rfl rfl rfl ?_
  refine wpo_pickt (v := .bool (decide (0 < k192))) rfl h190 rfl rfl ?_
  refine wpo_move (v := .bool (decide (0 < k192))) rfl rfl ?_
  rcases bcases (decide (0 < k192)) with h199 | h199
  ·
   have h200 := of_decide_eq_true h199
   refine wpo_run rfl rfl rfl h199 ?_
   refine wpo_move (v := .slice ta ms.length tc) e161 rfl ?_
   refine wpo_run rfl rfl rfl h199 ?_
   refine wpo_fieldAddr (o' := 1) fo_76_1 e163 rfl rfl ?_
   refine wpo_run rfl rfl rfl h199 ?_
   have k201 := (k165.grown hg196 (some_ne (by omega)))
   refine wpo_load1 (v := .int .i64 k114) ot_3 rfl (k201.cell rfl) rfl ?_
   refine wpo_run rfl rfl rfl h199 ?_
   have hTG202 := (TabG.lt hGl hg196 (by omega))
   refine wpo_call (vs := [.slice ta ms.length tc, .int .i64 k114]) gf_109 (args_cons rfl (args_cons rfl args_nil)) rfl (l11Run_c k114 (by omega) _ ms _ _ (TabG.at hTG202) hlen (by omega)) ?_
   rintro _ w203 ⟨rfl, hg204⟩
   have hb205 := low0 hb198 hg204
   refine wpo_pickt (v := .bool (kindAt (tabT ms) k114 3)) rfl h199 rfl rfl ?_
   refine wpo_move (v := .bool (kindAt (tabT ms) k114 3)) rfl rfl ?_
   rcases bcases (kindAt (tabT ms) k114 3) with h206 | h206
   ·
    refine wpo_run rfl rfl rfl h206 ?_
    refine wpo_move (v := .slice ta ms.length tc) e161 rfl ?_
    refine wpo_run rfl rfl rfl h206 ?_
    refine wpo_fieldAddr (o' := 1) fo_76_1 e163 rfl rfl ?_
    refine wpo_run rfl rfl rfl h206 ?_
    have k207 := (k201.grown0 hg204)
    refine wpo_load1 (v := .int .i64 k114) ot_3 rfl (k207.cell rfl) rfl ?_
    refine wpo_run rfl rfl rfl h206 ?_
    refine wpo_sub (c := k114 - 1) rfl rfl (by omega) (by omega) (by omega) rfl ?_
    refine wpo_run rfl rfl rfl h206 ?_
    have hTG216 := (TabG.low hTG202 hg204)
    obtain ⟨b210, q211, o212, ha213, ho214, hr215⟩ := SlAt.at (TabG.at hTG216).1 (map_get (mAt_get (show (k114 - 1).toNat < ms.length by omega)))
    have hle217 := TabLen.at hlen (mAt_get (show (k114 - 1).toNat < ms.length by omega))
    refine wpo_indexE es_54 rfl rfl ha213 ho214 (by omega) (by omega) rfl ?_
    refine wpo_run rfl rfl rfl h206 ?_
    refine wpo_fieldAddr (o' := o212 + 5) fo_45_4 rfl rfl rfl ?_
    refine wpo_run rfl rfl rfl h206 ?_
    refine wpo_load1 (v := .slice ((mAt ms ((k114 - 1).toNat)).sa) ((mAt ms ((k114 - 1).toNat)).t.slots.length) ((mAt ms ((k114 - 1).toNat)).sc)) ot_27 rfl (hr215 5 _ rfl) rfl ?_
    refine wpo_run rfl rfl rfl h206 ?_
    refine wpo_len (by kernel_rfl) rfl rfl ?_
    refine wpo_run rfl rfl rfl h206 ?_
    refine wpo_eql (q := decide (((mAt ms ((k114 - 1).toNat)).t.slots.length : Int) = 4)) rfl rfl rfl rfl ?_
    refine wpo_pickt (v := .bool (decide (((mAt ms ((k114 - 1).toNat)).t.slots.length : Int) = 4))) rfl h206 rfl rfl ?_
    refine wpo_nil ?_
    refine wpf_cond rfl (fun h218 => ?_) (fun h218 => ?_)
    ·
     have h219 := of_decide_eq_true h218
     refine wpf_skip ?_
     refine thn_n ?_
     refine wpf_seq ?_
     refine wpf_block ?_
     refine wpf_seq ?_
     obtain ⟨b256, q257, o258, ha259, ho260, hr261⟩ := SlAt.at (TabAt.th (TabG.at hTG216) (mAt_get (show (k114 - 1).toNat < ms.length by omega))).1 (map_get (rAt_get (show (aa).toNat < (mAt ms ((k114 - 1).toNat)).t.slots.length by omega)))
     refine wpf_drawI (m := 12) [[], [], [1], [1, 2], [0, 1, 2, 3], [0, 1, 2, 3, 4], [0, 1, 2, 3, 4, 5], [], [7], [0, 1, 2, 3, 4, 5, 6, 7, 8], [0, 1, 2, 3, 4, 5, 6, 7, 8, 9], [], [0, 1, 2, 3, 4, 5, 6, 7, 8, 9, 10, 11]] (fun S F w' => ∃ (B268 : Nat), w203.grownBy w' none ∧ F 0 = .pointer (some ⟨R, 0, none⟩) ∧ F 1 = .slice ta ms.length tc ∧ F 4 = .pointer (some ⟨B101, 0, none⟩) ∧ F 5 = .pointer (some ⟨B144, 0, none⟩) ∧ F 6 = .int .i64 (i : Int) ∧ (S 0 = true → F 47 = .slice ta ms.length tc) ∧ (S 1 = true → F 48 = .pointer (some ⟨B144, 1, none⟩)) ∧ (S 2 = true → F 49 = .int .i64 k114) ∧ (S 3 = true → F 50 = .int .i64 (k114 - 1)) ∧ (S 4 = true → F 51 = .pointer (some ⟨b210, o212, none⟩)) ∧ (S 5 = true → F 52 = .pointer (some ⟨b210, o212 + 5, none⟩)) ∧ (S 6 = true → F 53 = .slice ((mAt ms ((k114 - 1).toNat)).sa) ((mAt ms ((k114 - 1).toNat)).t.slots.length) ((mAt ms ((k114 - 1).toNat)).sc)) ∧ (S 7 = true → F 54 = .pointer (some ⟨B144, 2, none⟩)) ∧ (S 8 = true → F 55 = .int .i64 aa) ∧ (S 9 = true → F 56 = .pointer (some ⟨b256, o258, none⟩)) ∧ (S 10 = true → F 57 = .agg #[.int .i64 ((rAt (mAt ms ((k114 - 1).toNat)).t.slots ((aa).toNat)).th), .int .i64 ((rAt (mAt ms ((k114 - 1).toNat)).t.slots ((aa).toNat)).ve), .bool ((rAt (mAt ms ((k114 - 1).toNat)).t.slots ((aa).toNat)).rd), .bool ((rAt (mAt ms ((k114 - 1).toNat)).t.slots ((aa).toNat)).wr), .bool ((rAt (mAt ms ((k114 - 1).toNat)).t.slots ((aa).toNat)).wk)]) ∧ (S 11 = true → F 7 = .pointer (some ⟨B268, 0, none⟩) ∧ w.heap.size ≤ B268 ∧ Blk w' B268 29 #[.int .i64 0, .int .i64 0, .bool false, .bool false, .bool false] ∧ B101 < B268 ∧ B144 < B268 ∧ R < B268 ∧ w203.heap.size ≤ B268)) mixed_ (by kernel_rfl) ⟨0, grown_drew _, e160, e161, e162, e163, e159, fun h => not_begun h, fun h => not_begun h, fun h => not_begun h, fun h => not_begun h, fun h => not_begun h, fun h => not_begun h, fun h => not_begun h, fun h => not_begun h, fun h => not_begun h, fun h => not_begun h, fun h => not_begun h, fun h => not_begun h⟩ ?_ ?_
     ·
      refine preL_cons (fun S F w274 hS hbef hcl hI => ?_) ?_
      ·
       obtain ⟨B268, hi275, e276, e277, e278, e279, e280, c_0, c_1, c_2, c_3, c_4, c_5, c_6, c_7, c_8, c_9, c_10, c_11⟩ := hI
       have hb281 := low0 hb205 hi275
       refine wpo_move (v := .slice ta ms.length tc) e277 rfl ?_
       exact wpo_nil ⟨B268, hi275, e276, e277, e278, e279, e280, fun _ => rfl, c_1, c_2, c_3, fun h => undone 4 hS hcl rfl h, fun h => undone 5 hS hcl rfl h, fun h => undone 6 hS hcl rfl h, c_7, c_8, fun h => undone 9 hS hcl rfl h, fun h => undone 10 hS hcl rfl h, c_11⟩
      refine preL_cons (fun S F w282 hS hbef hcl hI => ?_) ?_
      ·
       obtain ⟨B268, hi283, e284, e285, e286, e287, e288, c_0, c_1, c_2, c_3, c_4, c_5, c_6, c_7, c_8, c_9, c_10, c_11⟩ := hI
       have hb289 := low0 hb205 hi283
       refine wpo_fieldAddr (o' := 1) fo_76_1 e287 rfl rfl ?_
       exact wpo_nil ⟨B268, hi283, e284, e285, e286, e287, e288, c_0, fun _ => rfl, fun h => undone 2 hS hcl rfl h, fun h => undone 3 hS hcl rfl h, fun h => undone 4 hS hcl rfl h, fun h => undone 5 hS hcl rfl h, fun h => undone 6 hS hcl rfl h, c_7, c_8, fun h => undone 9 hS hcl rfl h, fun h => undone 10 hS hcl rfl h, c_11⟩
      refine preL_cons (fun S F w290 hS hbef hcl hI => ?_) ?_
      ·
       obtain ⟨B268, hi291, e292, e293, e294, e295, e296, c_0, c_1, c_2, c_3, c_4, c_5, c_6, c_7, c_8, c_9, c_10, c_11⟩ := hI
       have hb297 := low0 hb205 hi291
       obtain e298 := c_1 (ready_of 1 hbef rfl)
       have k299 := (k207.grown0 hi291)
       refine wpo_load1 (v := .int .i64 k114) ot_3 e298 (k299.cell rfl) rfl ?_
       exact wpo_nil ⟨B268, hi291, e292, e293, e294, e295, e296, c_0, c_1, fun _ => rfl, fun h => undone 3 hS hcl rfl h, fun h => undone 4 hS hcl rfl h, fun h => undone 5 hS hcl rfl h, fun h => undone 6 hS hcl rfl h, c_7, c_8, fun h => undone 9 hS hcl rfl h, fun h => undone 10 hS hcl rfl h, c_11⟩
      refine preL_cons (fun S F w300 hS hbef hcl hI => ?_) ?_
      ·
       obtain ⟨B268, hi301, e302, e303, e304, e305, e306, c_0, c_1, c_2, c_3, c_4, c_5, c_6, c_7, c_8, c_9, c_10, c_11⟩ := hI
       have hb307 := low0 hb205 hi301
       obtain e308 := c_1 (ready_of 1 hbef rfl)
       obtain e309 := c_2 (ready_of 2 hbef rfl)
       refine wpo_sub (c := k114 - 1) e309 rfl (by omega) (by omega) (by omega) rfl ?_
       exact wpo_nil ⟨B268, hi301, e302, e303, e304, e305, e306, c_0, c_1, c_2, fun _ => rfl, fun h => undone 4 hS hcl rfl h, fun h => undone 5 hS hcl rfl h, fun h => undone 6 hS hcl rfl h, c_7, c_8, fun h => undone 9 hS hcl rfl h, fun h => undone 10 hS hcl rfl h, c_11⟩
      refine preL_cons (fun S F w310 hS hbef hcl hI => ?_) ?_
      ·
       obtain ⟨B268, hi311, e312, e313, e314, e315, e316, c_0, c_1, c_2, c_3, c_4, c_5, c_6, c_7, c_8, c_9, c_10, c_11⟩ := hI
       have hb317 := low0 hb205 hi311
       obtain e318 := c_0 (ready_of 0 hbef rfl)
       obtain e319 := c_1 (ready_of 1 hbef rfl)
       obtain e320 := c_2 (ready_of 2 hbef rfl)
       obtain e321 := c_3 (ready_of 3 hbef rfl)
       refine wpo_indexE es_54 e318 e321 ha213 ho214 (by omega) (by omega) rfl ?_
       exact wpo_nil ⟨B268, hi311, e312, e313, e314, e315, e316, c_0, c_1, c_2, c_3, fun _ => rfl, fun h => undone 5 hS hcl rfl h, fun h => undone 6 hS hcl rfl h, c_7, c_8, fun h => undone 9 hS hcl rfl h, fun h => undone 10 hS hcl rfl h, c_11⟩
      refine preL_cons (fun S F w322 hS hbef hcl hI => ?_) ?_
      ·
       obtain ⟨B268, hi323, e324, e325, e326, e327, e328, c_0, c_1, c_2, c_3, c_4, c_5, c_6, c_7, c_8, c_9, c_10, c_11⟩ := hI
       have hb329 := low0 hb205 hi323
       obtain e330 := c_0 (ready_of 0 hbef rfl)
       obtain e331 := c_1 (ready_of 1 hbef rfl)
       obtain e332 := c_2 (ready_of 2 hbef rfl)
       obtain e333 := c_3 (ready_of 3 hbef rfl)
       obtain e334 := c_4 (ready_of 4 hbef rfl)
       refine wpo_fieldAddr (o' := o212 + 5) fo_45_4 e334 rfl rfl ?_
       exact wpo_nil ⟨B268, hi323, e324, e325, e326, e327, e328, c_0, c_1, c_2, c_3, c_4, fun _ => rfl, fun h => undone 6 hS hcl rfl h, c_7, c_8, fun h => undone 9 hS hcl rfl h, fun h => undone 10 hS hcl rfl h, c_11⟩
      refine preL_cons (fun S F w335 hS hbef hcl hI => ?_) ?_
      ·
       obtain ⟨B268, hi336, e337, e338, e339, e340, e341, c_0, c_1, c_2, c_3, c_4, c_5, c_6, c_7, c_8, c_9, c_10, c_11⟩ := hI
       have hb342 := low0 hb205 hi336
       obtain e343 := c_0 (ready_of 0 hbef rfl)
       obtain e344 := c_1 (ready_of 1 hbef rfl)
       obtain e345 := c_2 (ready_of 2 hbef rfl)
       obtain e346 := c_3 (ready_of 3 hbef rfl)
       obtain e347 := c_4 (ready_of 4 hbef rfl)
       obtain e348 := c_5 (ready_of 5 hbef rfl)
       refine wpo_load1 (v := .slice ((mAt ms ((k114 - 1).toNat)).sa) ((mAt ms ((k114 - 1).toNat)).t.slots.length) ((mAt ms ((k114 - 1).toNat)).sc)) ot_27 e348 ((range_low hr215 hi336) 5 _ rfl) rfl ?_
       exact wpo_nil ⟨B268, hi336, e337, e338, e339, e340, e341, c_0, c_1, c_2, c_3, c_4, c_5, fun _ => rfl, c_7, c_8, fun h => undone 9 hS hcl rfl h, fun h => undone 10 hS hcl rfl h, c_11⟩
      refine preL_cons (fun S F w349 hS hbef hcl hI => ?_) ?_
      ·
       obtain ⟨B268, hi350, e351, e352, e353, e354, e355, c_0, c_1, c_2, c_3, c_4, c_5, c_6, c_7, c_8, c_9, c_10, c_11⟩ := hI
       have hb356 := low0 hb205 hi350
       refine wpo_fieldAddr (o' := 2) fo_76_2 e354 rfl rfl ?_
       exact wpo_nil ⟨B268, hi350, e351, e352, e353, e354, e355, c_0, c_1, c_2, c_3, c_4, c_5, c_6, fun _ => rfl, fun h => undone 8 hS hcl rfl h, fun h => undone 9 hS hcl rfl h, fun h => undone 10 hS hcl rfl h, c_11⟩
      refine preL_cons (fun S F w357 hS hbef hcl hI => ?_) ?_
      ·
       obtain ⟨B268, hi358, e359, e360, e361, e362, e363, c_0, c_1, c_2, c_3, c_4, c_5, c_6, c_7, c_8, c_9, c_10, c_11⟩ := hI
       have hb364 := low0 hb205 hi358
       obtain e365 := c_7 (ready_of 7 hbef rfl)
       have k366 := (k207.grown0 hi358)
       refine wpo_load1 (v := .int .i64 aa) ot_3 e365 (k366.cell rfl) rfl ?_
       exact wpo_nil ⟨B268, hi358, e359, e360, e361, e362, e363, c_0, c_1, c_2, c_3, c_4, c_5, c_6, c_7, fun _ => rfl, fun h => undone 9 hS hcl rfl h, fun h => undone 10 hS hcl rfl h, c_11⟩
      refine preL_cons (fun S F w367 hS hbef hcl hI => ?_) ?_
      ·
       obtain ⟨B268, hi368, e369, e370, e371, e372, e373, c_0, c_1, c_2, c_3, c_4, c_5, c_6, c_7, c_8, c_9, c_10, c_11⟩ := hI
       have hb374 := low0 hb205 hi368
       obtain e375 := c_0 (ready_of 0 hbef rfl)
       obtain e376 := c_1 (ready_of 1 hbef rfl)
       obtain e377 := c_2 (ready_of 2 hbef rfl)
       obtain e378 := c_3 (ready_of 3 hbef rfl)
       obtain e379 := c_4 (ready_of 4 hbef rfl)
       obtain e380 := c_5 (ready_of 5 hbef rfl)
       obtain e381 := c_6 (ready_of 6 hbef rfl)
       obtain e382 := c_7 (ready_of 7 hbef rfl)
       obtain e383 := c_8 (ready_of 8 hbef rfl)
       refine wpo_indexE es_27 e381 e383 ha259 ho260 (by omega) (by omega) rfl ?_
       exact wpo_nil ⟨B268, hi368, e369, e370, e371, e372, e373, c_0, c_1, c_2, c_3, c_4, c_5, c_6, c_7, c_8, fun _ => rfl, fun h => undone 10 hS hcl rfl h, c_11⟩
      refine preL_cons (fun S F w384 hS hbef hcl hI => ?_) ?_
      ·
       obtain ⟨B268, hi385, e386, e387, e388, e389, e390, c_0, c_1, c_2, c_3, c_4, c_5, c_6, c_7, c_8, c_9, c_10, c_11⟩ := hI
       have hb391 := low0 hb205 hi385
       obtain e392 := c_0 (ready_of 0 hbef rfl)
       obtain e393 := c_1 (ready_of 1 hbef rfl)
       obtain e394 := c_2 (ready_of 2 hbef rfl)
       obtain e395 := c_3 (ready_of 3 hbef rfl)
       obtain e396 := c_4 (ready_of 4 hbef rfl)
       obtain e397 := c_5 (ready_of 5 hbef rfl)
       obtain e398 := c_6 (ready_of 6 hbef rfl)
       obtain e399 := c_7 (ready_of 7 hbef rfl)
       obtain e400 := c_8 (ready_of 8 hbef rfl)
       obtain e401 := c_9 (ready_of 9 hbef rfl)
       refine wpo_loadn (vs := [.int .i64 ((rAt (mAt ms ((k114 - 1).toNat)).t.slots ((aa).toNat)).th), .int .i64 ((rAt (mAt ms ((k114 - 1).toNat)).t.slots ((aa).toNat)).ve), .bool ((rAt (mAt ms ((k114 - 1).toNat)).t.slots ((aa).toNat)).rd), .bool ((rAt (mAt ms ((k114 - 1).toNat)).t.slots ((aa).toNat)).wr), .bool ((rAt (mAt ms ((k114 - 1).toNat)).t.slots ((aa).toNat)).wk)]) rt_29 e401 rfl (range_sub (range_low hr261 hi385) 0 5 rfl) rfl ?_
       exact wpo_nil ⟨B268, hi385, e386, e387, e388, e389, e390, c_0, c_1, c_2, c_3, c_4, c_5, c_6, c_7, c_8, c_9, fun _ => rfl, c_11⟩
      refine preL_cons (fun S F w402 hS hbef hcl hI => ?_) ?_
      ·
       obtain ⟨B268, hi403, e404, e405, e406, e407, e408, c_0, c_1, c_2, c_3, c_4, c_5, c_6, c_7, c_8, c_9, c_10, c_11⟩ := hI
       have hb409 := low0 hb205 hi403
       refine wpo_alloc (cs := #[.int .i64 0, .int .i64 0, .bool false, .bool false, .bool false]) zt_29 rfl rfl ?_
       intro B410 w411 hN412
       have hlB410 := hN_ge hN412 hb409
       have hhiB410 : hi ≤ B410 := Nat.le_trans (Nat.le_trans (Nat.le_trans (Nat.le_trans hhs hg196.size) hg204.size) hi403.size) (Nat.le_of_eq hN412.eq.symm)
       have k413 := (((k164.grown hg196 (some_ne (by omega))).grown0 hg204).grown0 hi403)
       have lt_B101_B410 := hN_gtl hN412 (k413).lt
       have k414 := (k207.grown0 hi403)
       have lt_B144_B410 := hN_gtl hN412 (k414).lt
       have k415 := ((kR195.grown0 hg204).grown0 hi403)
       have lt_R_B410 := hN_gtl hN412 (k415).lt
       have hb416 := low0 hb409 hN412.grw
       exact wpo_nil ⟨B410, (low0 hi403 hN412.grw), e404, e405, e406, e407, e408, c_0, c_1, c_2, c_3, c_4, c_5, c_6, c_7, c_8, c_9, c_10, fun _ => ⟨rfl, hlB410, hN412.blk, lt_B101_B410, lt_B144_B410, lt_R_B410, (Nat.le_trans hi403.size (Nat.le_of_eq hN412.eq.symm))⟩⟩
      exact preL_nil
     ·
      intro S F w417 hall hI
      obtain ⟨B268, hi418, e419, e420, e421, e422, e423, c_0, c_1, c_2, c_3, c_4, c_5, c_6, c_7, c_8, c_9, c_10, c_11⟩ := hI
      have hb424 := low0 hb205 hi418
      obtain e425 := c_0 (hall 0 (by decide))
      obtain e426 := c_1 (hall 1 (by decide))
      obtain e427 := c_2 (hall 2 (by decide))
      obtain e428 := c_3 (hall 3 (by decide))
      obtain e429 := c_4 (hall 4 (by decide))
      obtain e430 := c_5 (hall 5 (by decide))
      obtain e431 := c_6 (hall 6 (by decide))
      obtain e432 := c_7 (hall 7 (by decide))
      obtain e433 := c_8 (hall 8 (by decide))
      obtain e434 := c_9 (hall 9 (by decide))
      obtain e435 := c_10 (hall 10 (by decide))
      obtain ⟨e436, hlB268, kb_B268, lt_B101_B268, lt_B144_B268, lt_R_B268, hk_B268⟩ := c_11 (hall 11 (by decide))
      refine wpo_storen (vs := [.int .i64 ((rAt (mAt ms ((k114 - 1).toNat)).t.slots ((aa).toNat)).th), .int .i64 ((rAt (mAt ms ((k114 - 1).toNat)).t.slots ((aa).toNat)).ve), .bool ((rAt (mAt ms ((k114 - 1).toNat)).t.slots ((aa).toNat)).rd), .bool ((rAt (mAt ms ((k114 - 1).toNat)).t.slots ((aa).toNat)).wr), .bool ((rAt (mAt ms ((k114 - 1).toNat)).t.slots ((aa).toNat)).wk)]) (cs' := #[.int .i64 ((rAt (mAt ms ((k114 - 1).toNat)).t.slots ((aa).toNat)).th), .int .i64 ((rAt (mAt ms ((k114 - 1).toNat)).t.slots ((aa).toNat)).ve), .bool ((rAt (mAt ms ((k114 - 1).toNat)).t.slots ((aa).toNat)).rd), .bool ((rAt (mAt ms ((k114 - 1).toNat)).t.slots ((aa).toNat)).wr), .bool ((rAt (mAt ms ((k114 - 1).toNat)).t.slots ((aa).toNat)).wk)]) rt_29 e436 e435 rfl (by simp [Value.oneCell']) kb_B268 (Nat.le_of_ble_eq_true rfl) rfl ?_
      intro w437 hS438
      have hb439 := low1 hb424 hS438.grw (by omega)
      refine wpo_nil ?_
      refine thn_n ?_
      refine wpf_seq ?_
      refine wpf_seq_mid (fun f' w' => (f' 0 = .pointer (some ⟨R, 0, none⟩) ∧ f' 1 = .slice ta ms.length tc ∧ f' 4 = .pointer (some ⟨B101, 0, none⟩) ∧ f' 5 = .pointer (some ⟨B144, 0, none⟩) ∧ f' 6 = .int .i64 (i : Int) ∧ f' 79 = .bool ((decide (kk = 3)) || (inR ((rAt (mAt ms ((k114 - 1).toNat)).t.slots ((aa).toNat)).th) 1 (ms.length : Int) && kindFor kk ((mAt ms ((((rAt (mAt ms ((k114 - 1).toNat)).t.slots ((aa).toNat)).th) - 1).toNat)).t.kind)))) ∧ w437.grownBy w' none) ?_ ?_
      ·
       rcases bcases (decide (kk = 3)) with h461 | h461
       ·
        have h462 := of_decide_eq_true h461
        refine wpf_draw (m := 19) (vals := [(58, .pointer (some ⟨B144, 0, none⟩)), (59, .int .i64 kk), (60, .bool (decide (kk = 3))), (61, .bool (decide (kk = 3))), (62, undef), (63, undef), (64, undef), (65, undef), (66, undef), (67, undef), (68, undef), (69, undef), (70, undef), (71, undef), (72, undef), (73, undef), (74, undef), (75, undef), (76, undef)]) (fun w' => w437.grownBy w' none) mixed_ (by kernel_rfl) (grown_drew _) ?_ ?_
        ·
         refine yll_cons rfl (fun w466 hi467 => ?_) ?_
         ·
          have hb468 := low0 hb439 hi467
          refine wpo_fieldAddr (o' := 0) fo_76_0 e422 rfl rfl ?_
          exact wpo_nil ⟨rfl, hi467⟩
         refine yll_cons rfl (fun w469 hi470 => ?_) ?_
         ·
          have hb471 := low0 hb439 hi470
          have k472 := (((k207.grown0 hi418).grown hS438.grw (some_ne (by omega))).grown0 hi470)
          refine wpo_load1 (v := .int .i64 kk) ot_3 rfl (k472.cell rfl) rfl ?_
          exact wpo_nil ⟨rfl, hi470⟩
         refine yll_cons rfl (fun w473 hi474 => ?_) ?_
         ·
          have hb475 := low0 hb439 hi474
          refine wpo_eql (q := decide (kk = 3)) rfl rfl rfl rfl ?_
          exact wpo_nil ⟨rfl, hi474⟩
         refine yll_cons rfl (fun w476 hi477 => ?_) ?_
         ·
          have hb478 := low0 hb439 hi477
          refine wpo_move (v := .bool (decide (kk = 3))) rfl rfl ?_
          exact wpo_nil ⟨rfl, hi477⟩
         refine yll_cons rfl (fun w479 hi480 => ?_) ?_
         ·
          have hb481 := low0 hb439 hi480
          refine wpo_pass rfl rfl rfl h461 rfl ?_
          exact wpo_nil ⟨rfl, hi480⟩
         refine yll_cons rfl (fun w482 hi483 => ?_) ?_
         ·
          have hb484 := low0 hb439 hi483
          refine wpo_pass rfl rfl rfl h461 rfl ?_
          exact wpo_nil ⟨rfl, hi483⟩
         refine yll_cons rfl (fun w485 hi486 => ?_) ?_
         ·
          have hb487 := low0 hb439 hi486
          refine wpo_pass rfl rfl rfl h461 rfl ?_
          exact wpo_nil ⟨rfl, hi486⟩
         refine yll_cons rfl (fun w488 hi489 => ?_) ?_
         ·
          have hb490 := low0 hb439 hi489
          refine wpo_pass rfl rfl rfl h461 rfl ?_
          exact wpo_nil ⟨rfl, hi489⟩
         refine yll_cons rfl (fun w491 hi492 => ?_) ?_
         ·
          have hb493 := low0 hb439 hi492
          refine wpo_pass rfl rfl rfl h461 rfl ?_
          exact wpo_nil ⟨rfl, hi492⟩
         refine yll_cons rfl (fun w494 hi495 => ?_) ?_
         ·
          have hb496 := low0 hb439 hi495
          refine wpo_pass rfl rfl rfl h461 rfl ?_
          exact wpo_nil ⟨rfl, hi495⟩
         refine yll_cons rfl (fun w497 hi498 => ?_) ?_
         ·
          have hb499 := low0 hb439 hi498
          refine wpo_passu rfl rfl rfl rfl ?_
          exact wpo_nil ⟨rfl, hi498⟩
         refine yll_cons rfl (fun w500 hi501 => ?_) ?_
         ·
          have hb502 := low0 hb439 hi501
          refine wpo_passu rfl rfl rfl rfl ?_
          exact wpo_nil ⟨rfl, hi501⟩
         refine yll_cons rfl (fun w503 hi504 => ?_) ?_
         ·
          have hb505 := low0 hb439 hi504
          refine wpo_passu rfl rfl rfl rfl ?_
          exact wpo_nil ⟨rfl, hi504⟩
         refine yll_cons rfl (fun w506 hi507 => ?_) ?_
         ·
          have hb508 := low0 hb439 hi507
          refine wpo_passu rfl rfl rfl rfl ?_
          exact wpo_nil ⟨rfl, hi507⟩
         refine yll_cons rfl (fun w509 hi510 => ?_) ?_
         ·
          have hb511 := low0 hb439 hi510
          refine wpo_passu rfl rfl rfl rfl ?_
          exact wpo_nil ⟨rfl, hi510⟩
         refine yll_cons rfl (fun w512 hi513 => ?_) ?_
         ·
          have hb514 := low0 hb439 hi513
          refine wpo_passu rfl rfl rfl rfl ?_
          exact wpo_nil ⟨rfl, hi513⟩
         refine yll_cons rfl (fun w515 hi516 => ?_) ?_
         ·
          have hb517 := low0 hb439 hi516
          refine wpo_passu rfl rfl rfl rfl ?_
          exact wpo_nil ⟨rfl, hi516⟩
         refine yll_cons rfl (fun w518 hi519 => ?_) ?_
         ·
          have hb520 := low0 hb439 hi519
          refine wpo_passu rfl rfl rfl rfl ?_
          exact wpo_nil ⟨rfl, hi519⟩
         refine yll_cons rfl (fun w521 hi522 => ?_) ?_
         ·
          have hb523 := low0 hb439 hi522
          refine wpo_passu rfl rfl rfl rfl ?_
          exact wpo_nil ⟨rfl, hi522⟩
         exact yll_nil
        ·
         intro w524 hi525
         have hb526 := low0 hb439 hi525
         refine wpo_passu rfl rfl rfl rfl ?_
         refine wpo_pass rfl rfl rfl h461 rfl ?_
         refine wpo_pickt (v := .bool true) rfl h461 rfl rfl ?_
         exact wpo_nil (thn_n ⟨⟨e419, e420, e421, e422, e423, (congrArg Value.bool (by first | (simp only [h190, h199, h206, h218, h461, b0, b1, b2, b3, b4, b5, b6, b7, b8, b9]; done) | simp [h190, h199, h206, h218, h461]))⟩, hi525⟩)
       ·
        have h527 := of_decide_eq_false h461
        rcases bcases (inR ((rAt (mAt ms ((k114 - 1).toNat)).t.slots ((aa).toNat)).th) 1 (ms.length : Int)) with h532 | h532
        ·
         have hr533 := inR_iff.1 h532
         have hTG567 := (TabG.ge (TabG.low hTG216 hi418) hS438.grw hTH (by omega))
         obtain ⟨b561, q562, o563, ha564, ho565, hr566⟩ := SlAt.at (TabG.at hTG567).1 (map_get (mAt_get (show (((rAt (mAt ms ((k114 - 1).toNat)).t.slots ((aa).toNat)).th) - 1).toNat < ms.length by omega)))
         have hle568 := TabLen.at hlen (mAt_get (show (((rAt (mAt ms ((k114 - 1).toNat)).t.slots ((aa).toNat)).th) - 1).toNat < ms.length by omega))
         refine wpf_draw (m := 19) (vals := [(58, .pointer (some ⟨B144, 0, none⟩)), (59, .int .i64 kk), (60, .bool (decide (kk = 3))), (61, .bool (decide (kk = 3))), (62, .pointer (some ⟨B268, 0, none⟩)), (63, .int .i64 ((rAt (mAt ms ((k114 - 1).toNat)).t.slots ((aa).toNat)).th)), (64, .slice ta ms.length tc), (65, .int .i64 (ms.length : Int)), (66, .bool (inR ((rAt (mAt ms ((k114 - 1).toNat)).t.slots ((aa).toNat)).th) 1 (ms.length : Int))), (67, .bool (inR ((rAt (mAt ms ((k114 - 1).toNat)).t.slots ((aa).toNat)).th) 1 (ms.length : Int))), (68, .pointer (some ⟨B144, 0, none⟩)), (69, .int .i64 kk), (70, .slice ta ms.length tc), (71, .pointer (some ⟨B268, 0, none⟩)), (72, .int .i64 ((rAt (mAt ms ((k114 - 1).toNat)).t.slots ((aa).toNat)).th)), (73, .int .i64 (((rAt (mAt ms ((k114 - 1).toNat)).t.slots ((aa).toNat)).th) - 1)), (74, .pointer (some ⟨b561, o563, none⟩)), (75, .pointer (some ⟨b561, o563, none⟩)), (76, .int .i64 ((mAt ms ((((rAt (mAt ms ((k114 - 1).toNat)).t.slots ((aa).toNat)).th) - 1).toNat)).t.kind))]) (fun w' => w437.grownBy w' none) mixed_ (by kernel_rfl) (grown_drew _) ?_ ?_
         ·
          refine yll_cons rfl (fun w578 hi579 => ?_) ?_
          ·
           have hb580 := low0 hb439 hi579
           refine wpo_fieldAddr (o' := 0) fo_76_0 e422 rfl rfl ?_
           exact wpo_nil ⟨rfl, hi579⟩
          refine yll_cons rfl (fun w581 hi582 => ?_) ?_
          ·
           have hb583 := low0 hb439 hi582
           have k584 := (((k207.grown0 hi418).grown hS438.grw (some_ne (by omega))).grown0 hi582)
           refine wpo_load1 (v := .int .i64 kk) ot_3 rfl (k584.cell rfl) rfl ?_
           exact wpo_nil ⟨rfl, hi582⟩
          refine yll_cons rfl (fun w585 hi586 => ?_) ?_
          ·
           have hb587 := low0 hb439 hi586
           refine wpo_eql (q := decide (kk = 3)) rfl rfl rfl rfl ?_
           exact wpo_nil ⟨rfl, hi586⟩
          refine yll_cons rfl (fun w588 hi589 => ?_) ?_
          ·
           have hb590 := low0 hb439 hi589
           refine wpo_move (v := .bool (decide (kk = 3))) rfl rfl ?_
           exact wpo_nil ⟨rfl, hi589⟩
          refine yll_cons rfl (fun w591 hi592 => ?_) ?_
          ·
           have hb593 := low0 hb439 hi592
           refine wpo_run rfl rfl rfl h461 ?_
           refine wpo_fieldAddr (o' := 0) fo_29_0 e436 rfl rfl ?_
           exact wpo_nil ⟨rfl, hi592⟩
          refine yll_cons rfl (fun w594 hi595 => ?_) ?_
          ·
           have hb596 := low0 hb439 hi595
           refine wpo_run rfl rfl rfl h461 ?_
           have k597 := (hS438.blk.grown0 hi595)
           refine wpo_load1 (v := .int .i64 ((rAt (mAt ms ((k114 - 1).toNat)).t.slots ((aa).toNat)).th)) ot_3 rfl (k597.cell rfl) rfl ?_
           exact wpo_nil ⟨rfl, hi595⟩
          refine yll_cons rfl (fun w598 hi599 => ?_) ?_
          ·
           have hb600 := low0 hb439 hi599
           refine wpo_run rfl rfl rfl h461 ?_
           refine wpo_move (v := .slice ta ms.length tc) e420 rfl ?_
           exact wpo_nil ⟨rfl, hi599⟩
          refine yll_cons rfl (fun w601 hi602 => ?_) ?_
          ·
           have hb603 := low0 hb439 hi602
           refine wpo_run rfl rfl rfl h461 ?_
           refine wpo_len (by kernel_rfl) rfl rfl ?_
           exact wpo_nil ⟨rfl, hi602⟩
          refine yll_cons rfl (fun w604 hi605 => ?_) ?_
          ·
           have hb606 := low0 hb439 hi605
           refine wpo_run rfl rfl rfl h461 ?_
           refine wpo_call (vs := [.int .i64 ((rAt (mAt ms ((k114 - 1).toNat)).t.slots ((aa).toNat)).th), .int .i64 1, .int .i64 (ms.length : Int)]) gf_85 (args_cons rfl (args_cons rfl (args_cons rfl args_nil))) rfl (l6In_c ((rAt (mAt ms ((k114 - 1).toNat)).t.slots ((aa).toNat)).th) 1 (ms.length : Int) _) ?_
           rintro _ w607 ⟨rfl, hg608⟩
           have hb609 := low0 hb606 hg608
           exact wpo_nil ⟨rfl, (grown_trans hi605 hg608)⟩
          refine yll_cons rfl (fun w610 hi611 => ?_) ?_
          ·
           have hb612 := low0 hb439 hi611
           refine wpo_run rfl rfl rfl h461 ?_
           refine wpo_move (v := .bool (inR ((rAt (mAt ms ((k114 - 1).toNat)).t.slots ((aa).toNat)).th) 1 (ms.length : Int))) rfl rfl ?_
           exact wpo_nil ⟨rfl, hi611⟩
          refine yll_cons rfl (fun w613 hi614 => ?_) ?_
          ·
           have hb615 := low0 hb439 hi614
           refine wpo_run rfl rfl rfl h532 ?_
           refine wpo_fieldAddr (o' := 0) fo_76_0 e422 rfl rfl ?_
           exact wpo_nil ⟨rfl, hi614⟩
          refine yll_cons rfl (fun w616 hi617 => ?_) ?_
          ·
           have hb618 := low0 hb439 hi617
           refine wpo_run rfl rfl rfl h532 ?_
           have k619 := (((k207.grown0 hi418).grown hS438.grw (some_ne (by omega))).grown0 hi617)
           refine wpo_load1 (v := .int .i64 kk) ot_3 rfl (k619.cell rfl) rfl ?_
           exact wpo_nil ⟨rfl, hi617⟩
          refine yll_cons rfl (fun w620 hi621 => ?_) ?_
          ·
           have hb622 := low0 hb439 hi621
           refine wpo_run rfl rfl rfl h532 ?_
           refine wpo_move (v := .slice ta ms.length tc) e420 rfl ?_
           exact wpo_nil ⟨rfl, hi621⟩
          refine yll_cons rfl (fun w623 hi624 => ?_) ?_
          ·
           have hb625 := low0 hb439 hi624
           refine wpo_run rfl rfl rfl h532 ?_
           refine wpo_fieldAddr (o' := 0) fo_29_0 e436 rfl rfl ?_
           exact wpo_nil ⟨rfl, hi624⟩
          refine yll_cons rfl (fun w626 hi627 => ?_) ?_
          ·
           have hb628 := low0 hb439 hi627
           refine wpo_run rfl rfl rfl h532 ?_
           have k629 := (hS438.blk.grown0 hi627)
           refine wpo_load1 (v := .int .i64 ((rAt (mAt ms ((k114 - 1).toNat)).t.slots ((aa).toNat)).th)) ot_3 rfl (k629.cell rfl) rfl ?_
           exact wpo_nil ⟨rfl, hi627⟩
          refine yll_cons rfl (fun w630 hi631 => ?_) ?_
          ·
           have hb632 := low0 hb439 hi631
           refine wpo_run rfl rfl rfl h532 ?_
           refine wpo_sub (c := ((rAt (mAt ms ((k114 - 1).toNat)).t.slots ((aa).toNat)).th) - 1) rfl rfl (by omega) (by omega) (by omega) rfl ?_
           exact wpo_nil ⟨rfl, hi631⟩
          refine yll_cons rfl (fun w633 hi634 => ?_) ?_
          ·
           have hb635 := low0 hb439 hi634
           refine wpo_run rfl rfl rfl h532 ?_
           refine wpo_indexE es_54 rfl rfl ha564 ho565 (by omega) (by omega) rfl ?_
           exact wpo_nil ⟨rfl, hi634⟩
          refine yll_cons rfl (fun w636 hi637 => ?_) ?_
          ·
           have hb638 := low0 hb439 hi637
           refine wpo_run rfl rfl rfl h532 ?_
           refine wpo_fieldAddr (o' := o563) fo_45_0 rfl rfl rfl ?_
           exact wpo_nil ⟨rfl, hi637⟩
          refine yll_cons rfl (fun w639 hi640 => ?_) ?_
          ·
           have hb641 := low0 hb439 hi640
           refine wpo_run rfl rfl rfl h532 ?_
           refine wpo_load1 (v := .int .i64 ((mAt ms ((((rAt (mAt ms ((k114 - 1).toNat)).t.slots ((aa).toNat)).th) - 1).toNat)).t.kind)) ot_3 rfl ((range_low hr566 hi640) 0 _ rfl) rfl ?_
           exact wpo_nil ⟨rfl, hi640⟩
          exact yll_nil
         ·
          intro w642 hi643
          have hb644 := low0 hb439 hi643
          refine wpo_run rfl rfl rfl h532 ?_
          refine wpo_call (vs := [.int .i64 kk, .int .i64 ((mAt ms ((((rAt (mAt ms ((k114 - 1).toNat)).t.slots ((aa).toNat)).th) - 1).toNat)).t.kind)]) gf_118 (args_cons rfl (args_cons rfl args_nil)) rfl (l11Kind_c kk ((mAt ms ((((rAt (mAt ms ((k114 - 1).toNat)).t.slots ((aa).toNat)).th) - 1).toNat)).t.kind) _) ?_
          rintro _ w645 ⟨rfl, hg646⟩
          have hb647 := low0 hb644 hg646
          refine wpo_run rfl rfl rfl h461 ?_
          refine wpo_pickt (v := .bool (kindFor kk ((mAt ms ((((rAt (mAt ms ((k114 - 1).toNat)).t.slots ((aa).toNat)).th) - 1).toNat)).t.kind))) rfl h532 rfl rfl ?_
          refine wpo_pickf (v := .bool (kindFor kk ((mAt ms ((((rAt (mAt ms ((k114 - 1).toNat)).t.slots ((aa).toNat)).th) - 1).toNat)).t.kind))) rfl h461 rfl rfl ?_
          exact wpo_nil (thn_n ⟨⟨e419, e420, e421, e422, e423, (congrArg Value.bool (by first | (simp only [h190, h199, h206, h218, h461, h532, b0, b1, b2, b3, b4, b5, b6, b7, b8, b9]; done) | simp [h190, h199, h206, h218, h461, h532]))⟩, (grown_trans hi643 hg646)⟩)
        ·
         refine wpf_draw (m := 19) (vals := [(58, .pointer (some ⟨B144, 0, none⟩)), (59, .int .i64 kk), (60, .bool (decide (kk = 3))), (61, .bool (decide (kk = 3))), (62, .pointer (some ⟨B268, 0, none⟩)), (63, .int .i64 ((rAt (mAt ms ((k114 - 1).toNat)).t.slots ((aa).toNat)).th)), (64, .slice ta ms.length tc), (65, .int .i64 (ms.length : Int)), (66, .bool (inR ((rAt (mAt ms ((k114 - 1).toNat)).t.slots ((aa).toNat)).th) 1 (ms.length : Int))), (67, .bool (inR ((rAt (mAt ms ((k114 - 1).toNat)).t.slots ((aa).toNat)).th) 1 (ms.length : Int))), (68, undef), (69, undef), (70, undef), (71, undef), (72, undef), (73, undef), (74, undef), (75, undef), (76, undef)]) (fun w' => w437.grownBy w' none) mixed_ (by kernel_rfl) (grown_drew _) ?_ ?_
         ·
          refine yll_cons rfl (fun w660 hi661 => ?_) ?_
          ·
           have hb662 := low0 hb439 hi661
           refine wpo_fieldAddr (o' := 0) fo_76_0 e422 rfl rfl ?_
           exact wpo_nil ⟨rfl, hi661⟩
          refine yll_cons rfl (fun w663 hi664 => ?_) ?_
          ·
           have hb665 := low0 hb439 hi664
           have k666 := (((k207.grown0 hi418).grown hS438.grw (some_ne (by omega))).grown0 hi664)
           refine wpo_load1 (v := .int .i64 kk) ot_3 rfl (k666.cell rfl) rfl ?_
           exact wpo_nil ⟨rfl, hi664⟩
          refine yll_cons rfl (fun w667 hi668 => ?_) ?_
          ·
           have hb669 := low0 hb439 hi668
           refine wpo_eql (q := decide (kk = 3)) rfl rfl rfl rfl ?_
           exact wpo_nil ⟨rfl, hi668⟩
          refine yll_cons rfl (fun w670 hi671 => ?_) ?_
          ·
           have hb672 := low0 hb439 hi671
           refine wpo_move (v := .bool (decide (kk = 3))) rfl rfl ?_
           exact wpo_nil ⟨rfl, hi671⟩
          refine yll_cons rfl (fun w673 hi674 => ?_) ?_
          ·
           have hb675 := low0 hb439 hi674
           refine wpo_run rfl rfl rfl h461 ?_
           refine wpo_fieldAddr (o' := 0) fo_29_0 e436 rfl rfl ?_
           exact wpo_nil ⟨rfl, hi674⟩
          refine yll_cons rfl (fun w676 hi677 => ?_) ?_
          ·
           have hb678 := low0 hb439 hi677
           refine wpo_run rfl rfl rfl h461 ?_
           have k679 := (hS438.blk.grown0 hi677)
           refine wpo_load1 (v := .int .i64 ((rAt (mAt ms ((k114 - 1).toNat)).t.slots ((aa).toNat)).th)) ot_3 rfl (k679.cell rfl) rfl ?_
           exact wpo_nil ⟨rfl, hi677⟩
          refine yll_cons rfl (fun w680 hi681 => ?_) ?_
          ·
           have hb682 := low0 hb439 hi681
           refine wpo_run rfl rfl rfl h461 ?_
           refine wpo_move (v := .slice ta ms.length tc) e420 rfl ?_
           exact wpo_nil ⟨rfl, hi681⟩
          refine yll_cons rfl (fun w683 hi684 => ?_) ?_
          ·
           have hb685 := low0 hb439 hi684
           refine wpo_run rfl rfl rfl h461 ?_
           refine wpo_len (by kernel_rfl) rfl rfl ?_
           exact wpo_nil ⟨rfl, hi684⟩
          refine yll_cons rfl (fun w686 hi687 => ?_) ?_
          ·
           have hb688 := low0 hb439 hi687
           refine wpo_run rfl rfl rfl h461 ?_
           refine wpo_call (vs := [.int .i64 ((rAt (mAt ms ((k114 - 1).toNat)).t.slots ((aa).toNat)).th), .int .i64 1, .int .i64 (ms.length : Int)]) gf_85 (args_cons rfl (args_cons rfl (args_cons rfl args_nil))) rfl (l6In_c ((rAt (mAt ms ((k114 - 1).toNat)).t.slots ((aa).toNat)).th) 1 (ms.length : Int) _) ?_
           rintro _ w689 ⟨rfl, hg690⟩
           have hb691 := low0 hb688 hg690
           exact wpo_nil ⟨rfl, (grown_trans hi687 hg690)⟩
          refine yll_cons rfl (fun w692 hi693 => ?_) ?_
          ·
           have hb694 := low0 hb439 hi693
           refine wpo_run rfl rfl rfl h461 ?_
           refine wpo_move (v := .bool (inR ((rAt (mAt ms ((k114 - 1).toNat)).t.slots ((aa).toNat)).th) 1 (ms.length : Int))) rfl rfl ?_
           exact wpo_nil ⟨rfl, hi693⟩
          refine yll_cons rfl (fun w695 hi696 => ?_) ?_
          ·
           have hb697 := low0 hb439 hi696
           refine wpo_pass rfl rfl rfl h532 rfl ?_
           exact wpo_nil ⟨rfl, hi696⟩
          refine yll_cons rfl (fun w698 hi699 => ?_) ?_
          ·
           have hb700 := low0 hb439 hi699
           refine wpo_pass rfl rfl rfl h532 rfl ?_
           exact wpo_nil ⟨rfl, hi699⟩
          refine yll_cons rfl (fun w701 hi702 => ?_) ?_
          ·
           have hb703 := low0 hb439 hi702
           refine wpo_pass rfl rfl rfl h532 rfl ?_
           exact wpo_nil ⟨rfl, hi702⟩
          refine yll_cons rfl (fun w704 hi705 => ?_) ?_
          ·
           have hb706 := low0 hb439 hi705
           refine wpo_pass rfl rfl rfl h532 rfl ?_
           exact wpo_nil ⟨rfl, hi705⟩
          refine yll_cons rfl (fun w707 hi708 => ?_) ?_
          ·
           have hb709 := low0 hb439 hi708
           refine wpo_pass rfl rfl rfl h532 rfl ?_
           exact wpo_nil ⟨rfl, hi708⟩
          refine yll_cons rfl (fun w710 hi711 => ?_) ?_
          ·
           have hb712 := low0 hb439 hi711
           refine wpo_pass rfl rfl rfl h532 rfl ?_
           exact wpo_nil ⟨rfl, hi711⟩
          refine yll_cons rfl (fun w713 hi714 => ?_) ?_
          ·
           have hb715 := low0 hb439 hi714
           refine wpo_pass rfl rfl rfl h532 rfl ?_
           exact wpo_nil ⟨rfl, hi714⟩
          refine yll_cons rfl (fun w716 hi717 => ?_) ?_
          ·
           have hb718 := low0 hb439 hi717
           refine wpo_pass rfl rfl rfl h532 rfl ?_
           exact wpo_nil ⟨rfl, hi717⟩
          refine yll_cons rfl (fun w719 hi720 => ?_) ?_
          ·
           have hb721 := low0 hb439 hi720
           refine wpo_pass rfl rfl rfl h532 rfl ?_
           exact wpo_nil ⟨rfl, hi720⟩
          exact yll_nil
         ·
          intro w722 hi723
          have hb724 := low0 hb439 hi723
          refine wpo_pass rfl rfl rfl h532 rfl ?_
          refine wpo_run rfl rfl rfl h461 ?_
          refine wpo_pickf (v := .bool false) rfl h532 rfl rfl ?_
          refine wpo_pickf (v := .bool false) rfl h461 rfl rfl ?_
          exact wpo_nil (thn_n ⟨⟨e419, e420, e421, e422, e423, (congrArg Value.bool (by first | (simp only [h190, h199, h206, h218, h461, h532, b0, b1, b2, b3, b4, b5, b6, b7, b8, b9]; done) | simp [h190, h199, h206, h218, h461, h532]))⟩, hi723⟩)
      ·
       rintro f725 w726 ⟨⟨e727, e728, e729, e730, e731, e732⟩, hg733⟩
       have hb734 := low0 hb439 hg733
       refine wpf_cond e732 (fun h735 => ?_) (fun h735 => ?_)
       ·
        refine wpf_exit ?_
        refine thn_e ?_
        refine blk_x (by decide) ?_
        refine thn_e ?_
        refine thn_e ?_
        refine blk_e ?_
        refine thn_n ?_
        refine wpf_seq ?_
        refine wpf_seq_region ?_
        refine wpo_move (v := .pointer (some ⟨R, 0, none⟩)) e727 rfl ?_
        have k736 := ((((kR195.grown0 hg204).grown0 hi418).grown hS438.grw (some_ne (by omega))).grown0 hg733)
        refine wpo_call (vs := [.pointer (some ⟨R, 0, none⟩), .int .i64 50]) gf_60 (args_cons rfl (args_cons rfl args_nil)) rfl (pick_c (p1 + 1) 50 (by omega) _ R bs _ _ _ k736 (by omega) (SlLt.low1 hs hb734 hlo) (by first | exact hb | exact fun b h => hb b (List.mem_of_mem_take h)) (by first | omega | (rw [List.length_take]; omega))) ?_
        rintro _ w742 ⟨k737, rfl, hk738, hk739, kR740, hg741⟩
        have hb743 := grown_trans hb734 hg741
        refine wpo_nil ?_
        refine wpf_block ?_
        refine wpf_seq_region ?_
        refine wpo_eql (q := decide (k737 = 0)) rfl rfl rfl rfl ?_
        refine wpo_assign (v := .bool (decide (k737 = 0))) rfl rfl ?_
        refine wpo_nil ?_
        refine wpf_cond rfl (fun h744 => ?_) (fun h744 => ?_)
        ·
         have h745 := of_decide_eq_true h744
         refine wpf_region ?_
         refine wpo_buildSlice (ps := [(0, .int .i64 0), (1, .int .i64 10)]) (e := 3) (cs := (([0, 10] : List Int).flatMap icell).toArray) (parts_cons rfl (parts_cons rfl parts_nil)) (fun _ => by kernel_rfl) rfl ?_
         intro B746 w747 hN748
         have hlB746 := hN_ge hN748 hb743
         have hhiB746 : hi ≤ B746 := Nat.le_trans (Nat.le_trans (Nat.le_trans (Nat.le_trans (Nat.le_trans (Nat.le_trans (Nat.le_trans hhs hg196.size) hg204.size) hi418.size) hS438.grw.size) hg733.size) hg741.size) (Nat.le_of_eq hN748.eq.symm)
         have k749 := ((((((k164.grown hg196 (some_ne (by omega))).grown0 hg204).grown0 hi418).grown hS438.grw (some_ne (by omega))).grown0 hg733).grown hg741 (some_ne (by omega)))
         have lt_B101_B746 := hN_gtl hN748 (k749).lt
         have k750 := ((((k207.grown0 hi418).grown hS438.grw (some_ne (by omega))).grown0 hg733).grown hg741 (some_ne (by omega)))
         have lt_B144_B746 := hN_gtl hN748 (k750).lt
         have lt_R_B746 := hN_gtl hN748 (kR740).lt
         have k751 := ((hS438.blk.grown0 hg733).grown hg741 (some_ne (by omega)))
         have lt_B268_B746 := hN_gtl hN748 (k751).lt
         have hb752 := low0 hb743 hN748.grw
         refine wpo_move (v := .pointer (some ⟨R, 0, none⟩)) e727 rfl ?_
         have k753 := (kR740.grown0 hN748.grw)
         refine wpo_call (vs := [.pointer (some ⟨R, 0, none⟩), .int .i64 2]) gf_60 (args_cons rfl (args_cons rfl args_nil)) rfl (pick_c (p1 + 1 + 1) 2 (by omega) _ R bs _ _ _ k753 (by omega) (SlLt.low1 hs hb752 hlo) (by first | exact hb | exact fun b h => hb b (List.mem_of_mem_take h)) (by first | omega | (rw [List.length_take]; omega))) ?_
         rintro _ w759 ⟨k754, rfl, hk755, hk756, kR757, hg758⟩
         have hb760 := grown_trans hb752 hg758
         refine wpo_indexAddr (o' := (k754).toNat * 1) es_43 rfl rfl (by omega) (by omega) (by omega) rfl ?_
         have k761 := (hN748.blk.grown hg758 (some_ne (by omega)))
         obtain ⟨x762, hx763⟩ := get_lt (l := ([0, 10] : List Int)) (i := (k754).toNat) (show (k754).toNat < 2 by omega)
         have hm764 := List.mem_of_getElem? hx763
         simp only [List.mem_cons, List.not_mem_nil, or_false] at hm764
         refine wpo_load1 (v := .int .i64 x762) ot_3 rfl ((rows_range wide_int k761 hx763) 0 _ rfl) rfl ?_
         refine wpo_fieldAddr (o' := 0) fo_76_0 e730 rfl rfl ?_
         have k765 := ((k750.grown0 hN748.grw).grown hg758 (some_ne (by omega)))
         refine wpo_store1 (v := .int .i64 x762) (cs' := #[.int .i64 x762, .int .i64 k114, .int .i64 aa, .int .i64 k130, .int .i64 k137]) ot_3 rfl rfl rfl k765 (Nat.le_of_ble_eq_true rfl) rfl ?_
         intro w766 hS767
         have hb768 := low1 hb760 hS767.grw (by omega)
         refine wpo_nil ?_
         refine blk_n ?_
         refine thn_n ?_
         refine wpf_seq_region ?_
         refine wpo_loadn (vs := [.int .i64 x762, .int .i64 k114, .int .i64 aa, .int .i64 k130, .int .i64 k137]) rt_76 e730 rfl (hS767.blk.rangeL 0 5 rfl) rfl ?_
         have k769 := (((k749.grown0 hN748.grw).grown hg758 (some_ne (by omega))).grown hS767.grw (some_ne (by omega)))
         refine wpo_storen (vs := [.int .i64 x762, .int .i64 k114, .int .i64 aa, .int .i64 k130, .int .i64 k137]) (cs' := #[.int .i64 x762, .int .i64 k114, .int .i64 aa, .int .i64 k130, .int .i64 k137]) rt_76 e729 rfl rfl (by simp [Value.oneCell']) k769 (Nat.le_of_ble_eq_true rfl) rfl ?_
         intro w770 hS771
         have hb772 := low1 hb768 hS771.grw (by omega)
         refine wpo_nil ?_
         refine wpf_ret ?_
         have k773 := ((kR757.grown hS767.grw (some_ne (by omega))).grown hS771.grw (some_ne (by omega)))
         refine ⟨.agg #[.int .i64 x762, .int .i64 k114, .int .i64 aa, .int .i64 k130, .int .i64 k137], resC rfl (resCell_mk (vs := [.int .i64 x762, .int .i64 k114, .int .i64 aa, .int .i64 k130, .int .i64 k137]) rt_76 e729 rfl (hS771.blk.rangeL 0 5 rfl)), ⟨x762, k114, aa, k130, k137⟩, (p1 + 1 + 1 + 1), rfl, ⟨⟨show (0 : Int) ≤ x762 by omega, show x762 ≤ (10 : Int) by omega⟩, ⟨show (1 : Int) ≤ k114 by omega, show k114 ≤ (ms.length : Int) by omega⟩, ⟨show (-1 : Int) ≤ aa by omega, show aa ≤ (4 : Int) by omega⟩, ⟨show (0 : Int) ≤ k130 by omega, show k130 ≤ (3 : Int) by omega⟩, show (-1 : Int) ≤ k137 by omega, show k137 ≤ (100 : Int) by omega⟩, by omega, by omega, k773, hb772⟩
        ·
         have h774 := of_decide_eq_false h744
         refine wpf_seq_region ?_
         refine wpo_eql (q := decide (k737 = 1)) rfl rfl rfl rfl ?_
         refine wpo_assign (v := .bool (decide (k737 = 1))) rfl rfl ?_
         refine wpo_nil ?_
         refine wpf_cond rfl (fun h775 => ?_) (fun h775 => ?_)
         ·
          have h776 := of_decide_eq_true h775
          refine wpf_region ?_
          refine wpo_buildSlice (ps := [(0, .int .i64 (-1)), (1, .int .i64 4)]) (e := 3) (cs := (([(-1), 4] : List Int).flatMap icell).toArray) (parts_cons rfl (parts_cons rfl parts_nil)) (fun _ => by kernel_rfl) rfl ?_
          intro B777 w778 hN779
          have hlB777 := hN_ge hN779 hb743
          have hhiB777 : hi ≤ B777 := Nat.le_trans (Nat.le_trans (Nat.le_trans (Nat.le_trans (Nat.le_trans (Nat.le_trans (Nat.le_trans hhs hg196.size) hg204.size) hi418.size) hS438.grw.size) hg733.size) hg741.size) (Nat.le_of_eq hN779.eq.symm)
          have k780 := ((((((k164.grown hg196 (some_ne (by omega))).grown0 hg204).grown0 hi418).grown hS438.grw (some_ne (by omega))).grown0 hg733).grown hg741 (some_ne (by omega)))
          have lt_B101_B777 := hN_gtl hN779 (k780).lt
          have k781 := ((((k207.grown0 hi418).grown hS438.grw (some_ne (by omega))).grown0 hg733).grown hg741 (some_ne (by omega)))
          have lt_B144_B777 := hN_gtl hN779 (k781).lt
          have lt_R_B777 := hN_gtl hN779 (kR740).lt
          have k782 := ((hS438.blk.grown0 hg733).grown hg741 (some_ne (by omega)))
          have lt_B268_B777 := hN_gtl hN779 (k782).lt
          have hb783 := low0 hb743 hN779.grw
          refine wpo_move (v := .pointer (some ⟨R, 0, none⟩)) e727 rfl ?_
          have k784 := (kR740.grown0 hN779.grw)
          refine wpo_call (vs := [.pointer (some ⟨R, 0, none⟩), .int .i64 2]) gf_60 (args_cons rfl (args_cons rfl args_nil)) rfl (pick_c (p1 + 1 + 1) 2 (by omega) _ R bs _ _ _ k784 (by omega) (SlLt.low1 hs hb783 hlo) (by first | exact hb | exact fun b h => hb b (List.mem_of_mem_take h)) (by first | omega | (rw [List.length_take]; omega))) ?_
          rintro _ w790 ⟨k785, rfl, hk786, hk787, kR788, hg789⟩
          have hb791 := grown_trans hb783 hg789
          refine wpo_indexAddr (o' := (k785).toNat * 1) es_43 rfl rfl (by omega) (by omega) (by omega) rfl ?_
          have k792 := (hN779.blk.grown hg789 (some_ne (by omega)))
          obtain ⟨x793, hx794⟩ := get_lt (l := ([(-1), 4] : List Int)) (i := (k785).toNat) (show (k785).toNat < 2 by omega)
          have hm795 := List.mem_of_getElem? hx794
          simp only [List.mem_cons, List.not_mem_nil, or_false] at hm795
          refine wpo_load1 (v := .int .i64 x793) ot_3 rfl ((rows_range wide_int k792 hx794) 0 _ rfl) rfl ?_
          refine wpo_fieldAddr (o' := 2) fo_76_2 e730 rfl rfl ?_
          have k796 := ((k781.grown0 hN779.grw).grown hg789 (some_ne (by omega)))
          refine wpo_store1 (v := .int .i64 x793) (cs' := #[.int .i64 kk, .int .i64 k114, .int .i64 x793, .int .i64 k130, .int .i64 k137]) ot_3 rfl rfl rfl k796 (Nat.le_of_ble_eq_true rfl) rfl ?_
          intro w797 hS798
          have hb799 := low1 hb791 hS798.grw (by omega)
          refine wpo_nil ?_
          refine blk_n ?_
          refine thn_n ?_
          refine wpf_seq_region ?_
          refine wpo_loadn (vs := [.int .i64 kk, .int .i64 k114, .int .i64 x793, .int .i64 k130, .int .i64 k137]) rt_76 e730 rfl (hS798.blk.rangeL 0 5 rfl) rfl ?_
          have k800 := (((k780.grown0 hN779.grw).grown hg789 (some_ne (by omega))).grown hS798.grw (some_ne (by omega)))
          refine wpo_storen (vs := [.int .i64 kk, .int .i64 k114, .int .i64 x793, .int .i64 k130, .int .i64 k137]) (cs' := #[.int .i64 kk, .int .i64 k114, .int .i64 x793, .int .i64 k130, .int .i64 k137]) rt_76 e729 rfl rfl (by simp [Value.oneCell']) k800 (Nat.le_of_ble_eq_true rfl) rfl ?_
          intro w801 hS802
          have hb803 := low1 hb799 hS802.grw (by omega)
          refine wpo_nil ?_
          refine wpf_ret ?_
          have k804 := ((kR788.grown hS798.grw (some_ne (by omega))).grown hS802.grw (some_ne (by omega)))
          refine ⟨.agg #[.int .i64 kk, .int .i64 k114, .int .i64 x793, .int .i64 k130, .int .i64 k137], resC rfl (resCell_mk (vs := [.int .i64 kk, .int .i64 k114, .int .i64 x793, .int .i64 k130, .int .i64 k137]) rt_76 e729 rfl (hS802.blk.rangeL 0 5 rfl)), ⟨kk, k114, x793, k130, k137⟩, (p1 + 1 + 1 + 1), rfl, ⟨⟨show (0 : Int) ≤ kk by omega, show kk ≤ (10 : Int) by omega⟩, ⟨show (1 : Int) ≤ k114 by omega, show k114 ≤ (ms.length : Int) by omega⟩, ⟨show (-1 : Int) ≤ x793 by omega, show x793 ≤ (4 : Int) by omega⟩, ⟨show (0 : Int) ≤ k130 by omega, show k130 ≤ (3 : Int) by omega⟩, show (-1 : Int) ≤ k137 by omega, show k137 ≤ (100 : Int) by omega⟩, by omega, by omega, k804, hb803⟩
         ·
          have h805 := of_decide_eq_false h775
          refine wpf_seq_region ?_
          refine wpo_eql (q := decide (k737 = 2)) rfl rfl rfl rfl ?_
          refine wpo_assign (v := .bool (decide (k737 = 2))) rfl rfl ?_
          refine wpo_nil ?_
          refine wpf_cond rfl (fun h806 => ?_) (fun h806 => ?_)
          ·
           have h807 := of_decide_eq_true h806
           refine wpf_region ?_
           refine wpo_buildSlice (ps := [(0, .int .i64 (-1)), (1, .int .i64 100)]) (e := 3) (cs := (([(-1), 100] : List Int).flatMap icell).toArray) (parts_cons rfl (parts_cons rfl parts_nil)) (fun _ => by kernel_rfl) rfl ?_
           intro B808 w809 hN810
           have hlB808 := hN_ge hN810 hb743
           have hhiB808 : hi ≤ B808 := Nat.le_trans (Nat.le_trans (Nat.le_trans (Nat.le_trans (Nat.le_trans (Nat.le_trans (Nat.le_trans hhs hg196.size) hg204.size) hi418.size) hS438.grw.size) hg733.size) hg741.size) (Nat.le_of_eq hN810.eq.symm)
           have k811 := ((((((k164.grown hg196 (some_ne (by omega))).grown0 hg204).grown0 hi418).grown hS438.grw (some_ne (by omega))).grown0 hg733).grown hg741 (some_ne (by omega)))
           have lt_B101_B808 := hN_gtl hN810 (k811).lt
           have k812 := ((((k207.grown0 hi418).grown hS438.grw (some_ne (by omega))).grown0 hg733).grown hg741 (some_ne (by omega)))
           have lt_B144_B808 := hN_gtl hN810 (k812).lt
           have lt_R_B808 := hN_gtl hN810 (kR740).lt
           have k813 := ((hS438.blk.grown0 hg733).grown hg741 (some_ne (by omega)))
           have lt_B268_B808 := hN_gtl hN810 (k813).lt
           have hb814 := low0 hb743 hN810.grw
           refine wpo_move (v := .pointer (some ⟨R, 0, none⟩)) e727 rfl ?_
           have k815 := (kR740.grown0 hN810.grw)
           refine wpo_call (vs := [.pointer (some ⟨R, 0, none⟩), .int .i64 2]) gf_60 (args_cons rfl (args_cons rfl args_nil)) rfl (pick_c (p1 + 1 + 1) 2 (by omega) _ R bs _ _ _ k815 (by omega) (SlLt.low1 hs hb814 hlo) (by first | exact hb | exact fun b h => hb b (List.mem_of_mem_take h)) (by first | omega | (rw [List.length_take]; omega))) ?_
           rintro _ w821 ⟨k816, rfl, hk817, hk818, kR819, hg820⟩
           have hb822 := grown_trans hb814 hg820
           refine wpo_indexAddr (o' := (k816).toNat * 1) es_43 rfl rfl (by omega) (by omega) (by omega) rfl ?_
           have k823 := (hN810.blk.grown hg820 (some_ne (by omega)))
           obtain ⟨x824, hx825⟩ := get_lt (l := ([(-1), 100] : List Int)) (i := (k816).toNat) (show (k816).toNat < 2 by omega)
           have hm826 := List.mem_of_getElem? hx825
           simp only [List.mem_cons, List.not_mem_nil, or_false] at hm826
           refine wpo_load1 (v := .int .i64 x824) ot_3 rfl ((rows_range wide_int k823 hx825) 0 _ rfl) rfl ?_
           refine wpo_fieldAddr (o' := 4) fo_76_4 e730 rfl rfl ?_
           have k827 := ((k812.grown0 hN810.grw).grown hg820 (some_ne (by omega)))
           refine wpo_store1 (v := .int .i64 x824) (cs' := #[.int .i64 kk, .int .i64 k114, .int .i64 aa, .int .i64 k130, .int .i64 x824]) ot_3 rfl rfl rfl k827 (Nat.le_of_ble_eq_true rfl) rfl ?_
           intro w828 hS829
           have hb830 := low1 hb822 hS829.grw (by omega)
           refine wpo_nil ?_
           refine blk_n ?_
           refine thn_n ?_
           refine wpf_seq_region ?_
           refine wpo_loadn (vs := [.int .i64 kk, .int .i64 k114, .int .i64 aa, .int .i64 k130, .int .i64 x824]) rt_76 e730 rfl (hS829.blk.rangeL 0 5 rfl) rfl ?_
           have k831 := (((k811.grown0 hN810.grw).grown hg820 (some_ne (by omega))).grown hS829.grw (some_ne (by omega)))
           refine wpo_storen (vs := [.int .i64 kk, .int .i64 k114, .int .i64 aa, .int .i64 k130, .int .i64 x824]) (cs' := #[.int .i64 kk, .int .i64 k114, .int .i64 aa, .int .i64 k130, .int .i64 x824]) rt_76 e729 rfl rfl (by simp [Value.oneCell']) k831 (Nat.le_of_ble_eq_true rfl) rfl ?_
           intro w832 hS833
           have hb834 := low1 hb830 hS833.grw (by omega)
           refine wpo_nil ?_
           refine wpf_ret ?_
           have k835 := ((kR819.grown hS829.grw (some_ne (by omega))).grown hS833.grw (some_ne (by omega)))
           refine ⟨.agg #[.int .i64 kk, .int .i64 k114, .int .i64 aa, .int .i64 k130, .int .i64 x824], resC rfl (resCell_mk (vs := [.int .i64 kk, .int .i64 k114, .int .i64 aa, .int .i64 k130, .int .i64 x824]) rt_76 e729 rfl (hS833.blk.rangeL 0 5 rfl)), ⟨kk, k114, aa, k130, x824⟩, (p1 + 1 + 1 + 1), rfl, ⟨⟨show (0 : Int) ≤ kk by omega, show kk ≤ (10 : Int) by omega⟩, ⟨show (1 : Int) ≤ k114 by omega, show k114 ≤ (ms.length : Int) by omega⟩, ⟨show (-1 : Int) ≤ aa by omega, show aa ≤ (4 : Int) by omega⟩, ⟨show (0 : Int) ≤ k130 by omega, show k130 ≤ (3 : Int) by omega⟩, show (-1 : Int) ≤ x824 by omega, show x824 ≤ (100 : Int) by omega⟩, by omega, by omega, k835, hb834⟩
          ·
           have h836 := of_decide_eq_false h806
           refine wpf_skip ?_
           refine blk_n ?_
           refine thn_n ?_
           refine wpf_seq_region ?_
           have k837 := ((((k207.grown0 hi418).grown hS438.grw (some_ne (by omega))).grown0 hg733).grown hg741 (some_ne (by omega)))
           refine wpo_loadn (vs := [.int .i64 kk, .int .i64 k114, .int .i64 aa, .int .i64 k130, .int .i64 k137]) rt_76 e730 rfl (k837.rangeL 0 5 rfl) rfl ?_
           have k838 := ((((((k164.grown hg196 (some_ne (by omega))).grown0 hg204).grown0 hi418).grown hS438.grw (some_ne (by omega))).grown0 hg733).grown hg741 (some_ne (by omega)))
           refine wpo_storen (vs := [.int .i64 kk, .int .i64 k114, .int .i64 aa, .int .i64 k130, .int .i64 k137]) (cs' := #[.int .i64 kk, .int .i64 k114, .int .i64 aa, .int .i64 k130, .int .i64 k137]) rt_76 e729 rfl rfl (by simp [Value.oneCell']) k838 (Nat.le_of_ble_eq_true rfl) rfl ?_
           intro w839 hS840
           have hb841 := low1 hb743 hS840.grw (by omega)
           refine wpo_nil ?_
           refine wpf_ret ?_
           have k842 := (kR740.grown hS840.grw (some_ne (by omega)))
           refine ⟨.agg #[.int .i64 kk, .int .i64 k114, .int .i64 aa, .int .i64 k130, .int .i64 k137], resC rfl (resCell_mk (vs := [.int .i64 kk, .int .i64 k114, .int .i64 aa, .int .i64 k130, .int .i64 k137]) rt_76 e729 rfl (hS840.blk.rangeL 0 5 rfl)), ⟨kk, k114, aa, k130, k137⟩, (p1 + 1 + 1), rfl, ⟨⟨show (0 : Int) ≤ kk by omega, show kk ≤ (10 : Int) by omega⟩, ⟨show (1 : Int) ≤ k114 by omega, show k114 ≤ (ms.length : Int) by omega⟩, ⟨show (-1 : Int) ≤ aa by omega, show aa ≤ (4 : Int) by omega⟩, ⟨show (0 : Int) ≤ k130 by omega, show k130 ≤ (3 : Int) by omega⟩, show (-1 : Int) ≤ k137 by omega, show k137 ≤ (100 : Int) by omega⟩, by omega, by omega, k842, hb841⟩
       ·
        have h843 := or_l h735
        have h844 := of_decide_eq_false h843
        have h845 := or_r h735
        refine wpf_skip ?_
        refine thn_n ?_
        refine wpf_seq_region ?_
        refine wpo_move (v := .pointer (some ⟨R, 0, none⟩)) e727 rfl ?_
        have k846 := ((((kR195.grown0 hg204).grown0 hi418).grown hS438.grw (some_ne (by omega))).grown0 hg733)
        refine wpo_call (vs := [.pointer (some ⟨R, 0, none⟩), .int .i64 4]) gf_60 (args_cons rfl (args_cons rfl args_nil)) rfl (pick_c (p1 + 1) 4 (by omega) _ R bs _ _ _ k846 (by omega) (SlLt.low1 hs hb734 hlo) (by first | exact hb | exact fun b h => hb b (List.mem_of_mem_take h)) (by first | omega | (rw [List.length_take]; omega))) ?_
        rintro _ w852 ⟨k847, rfl, hk848, hk849, kR850, hg851⟩
        have hb853 := grown_trans hb734 hg851
        refine wpo_fieldAddr (o' := 2) fo_76_2 e730 rfl rfl ?_
        have k854 := ((((k207.grown0 hi418).grown hS438.grw (some_ne (by omega))).grown0 hg733).grown hg851 (some_ne (by omega)))
        refine wpo_store1 (v := .int .i64 k847) (cs' := #[.int .i64 kk, .int .i64 k114, .int .i64 k847, .int .i64 k130, .int .i64 k137]) ot_3 rfl rfl rfl k854 (Nat.le_of_ble_eq_true rfl) rfl ?_
        intro w855 hS856
        have hb857 := low1 hb853 hS856.grw (by omega)
        refine wpo_nil ?_
        refine wpf_region ?_
        refine wpo_move (v := .pointer (some ⟨R, 0, none⟩)) e727 rfl ?_
        have k858 := (kR850.grown hS856.grw (some_ne (by omega)))
        refine wpo_call (vs := [.pointer (some ⟨R, 0, none⟩), .int .i64 9]) gf_60 (args_cons rfl (args_cons rfl args_nil)) rfl (pick_c (p1 + 1 + 1) 9 (by omega) _ R bs _ _ _ k858 (by omega) (SlLt.low1 hs hb857 hlo) (by first | exact hb | exact fun b h => hb b (List.mem_of_mem_take h)) (by first | omega | (rw [List.length_take]; omega))) ?_
        rintro _ w864 ⟨k859, rfl, hk860, hk861, kR862, hg863⟩
        have hb865 := grown_trans hb857 hg863
        refine wpo_add (c := 1 + k859) rfl rfl (by omega) (by omega) (by omega) rfl ?_
        refine wpo_fieldAddr (o' := 0) fo_76_0 e730 rfl rfl ?_
        have k866 := (hS856.blk.grown hg863 (some_ne (by omega)))
        refine wpo_store1 (v := .int .i64 (1 + k859)) (cs' := #[.int .i64 (1 + k859), .int .i64 k114, .int .i64 k847, .int .i64 k130, .int .i64 k137]) ot_3 rfl rfl rfl k866 (Nat.le_of_ble_eq_true rfl) rfl ?_
        intro w867 hS868
        have hb869 := low1 hb865 hS868.grw (by omega)
        refine wpo_nil ?_
        refine blk_n ?_
        refine thn_n ?_
        refine wpf_region ?_
        refine wpo_move (v := .int .i64 (i : Int)) e731 rfl ?_
        refine wpo_add (c := (i : Int) + 1) rfl rfl (by omega) (by omega) (by omega) rfl ?_
        refine wpo_assign (v := .int .i64 ((i : Int) + 1)) rfl rfl ?_
        refine wpo_nil ?_
        refine thn_n ?_
        have hTG870 := (TabG.ge (TabG.lt (TabG.ge (TabG.lt (TabG.low (TabG.ge (TabG.low hTG216 hi418) hS438.grw hTH (by omega)) hg733) hg851 (by omega)) hS856.grw hTH (by omega)) hg863 (by omega)) hS868.grw hTH (by omega))
        have k871 := (((((((((k164.grown hg196 (some_ne (by omega))).grown0 hg204).grown0 hi418).grown hS438.grw (some_ne (by omega))).grown0 hg733).grown hg851 (some_ne (by omega))).grown hS856.grw (some_ne (by omega))).grown hg863 (some_ne (by omega))).grown hS868.grw (some_ne (by omega)))
        have k872 := (kR862.grown hS868.grw (some_ne (by omega)))
        exact ⟨6 - (i + 1), by omega, (i + 1), (p1 + 1 + 1 + 1), (1 + k859), k847, rfl, (by omega), (by omega), (by omega), (by omega), hTG870, (Nat.le_trans (Nat.le_trans (Nat.le_trans (Nat.le_trans (Nat.le_trans (Nat.le_trans (Nat.le_trans (Nat.le_trans (Nat.le_trans hhs hg196.size) hg204.size) hi418.size) hS438.grw.size) hg733.size) hg851.size) hS856.grw.size) hg863.size) hS868.grw.size), rfl, e727, e728, e729, e730, hb869, k871, hS868.blk, k872⟩
    ·
     have h873 := of_decide_eq_false h218
     refine wpf_exit ?_
     refine thn_e ?_
     refine thn_e ?_
     refine blk_e ?_
     refine thn_n ?_
     refine wpf_seq ?_
     refine wpf_seq_region ?_
     refine wpo_move (v := .pointer (some ⟨R, 0, none⟩)) e160 rfl ?_
     have k874 := (kR195.grown0 hg204)
     refine wpo_call (vs := [.pointer (some ⟨R, 0, none⟩), .int .i64 50]) gf_60 (args_cons rfl (args_cons rfl args_nil)) rfl (pick_c (p1 + 1) 50 (by omega) _ R bs _ _ _ k874 (by omega) (SlLt.low1 hs hb205 hlo) (by first | exact hb | exact fun b h => hb b (List.mem_of_mem_take h)) (by first | omega | (rw [List.length_take]; omega))) ?_
     rintro _ w880 ⟨k875, rfl, hk876, hk877, kR878, hg879⟩
     have hb881 := grown_trans hb205 hg879
     refine wpo_nil ?_
     refine wpf_block ?_
     refine wpf_seq_region ?_
     refine wpo_eql (q := decide (k875 = 0)) rfl rfl rfl rfl ?_
     refine wpo_assign (v := .bool (decide (k875 = 0))) rfl rfl ?_
     refine wpo_nil ?_
     refine wpf_cond rfl (fun h882 => ?_) (fun h882 => ?_)
     ·
      have h883 := of_decide_eq_true h882
      refine wpf_region ?_
      refine wpo_buildSlice (ps := [(0, .int .i64 0), (1, .int .i64 10)]) (e := 3) (cs := (([0, 10] : List Int).flatMap icell).toArray) (parts_cons rfl (parts_cons rfl parts_nil)) (fun _ => by kernel_rfl) rfl ?_
      intro B884 w885 hN886
      have hlB884 := hN_ge hN886 hb881
      have hhiB884 : hi ≤ B884 := Nat.le_trans (Nat.le_trans (Nat.le_trans (Nat.le_trans hhs hg196.size) hg204.size) hg879.size) (Nat.le_of_eq hN886.eq.symm)
      have k887 := (((k164.grown hg196 (some_ne (by omega))).grown0 hg204).grown hg879 (some_ne (by omega)))
      have lt_B101_B884 := hN_gtl hN886 (k887).lt
      have k888 := (k207.grown hg879 (some_ne (by omega)))
      have lt_B144_B884 := hN_gtl hN886 (k888).lt
      have lt_R_B884 := hN_gtl hN886 (kR878).lt
      have hb889 := low0 hb881 hN886.grw
      refine wpo_move (v := .pointer (some ⟨R, 0, none⟩)) e160 rfl ?_
      have k890 := (kR878.grown0 hN886.grw)
      refine wpo_call (vs := [.pointer (some ⟨R, 0, none⟩), .int .i64 2]) gf_60 (args_cons rfl (args_cons rfl args_nil)) rfl (pick_c (p1 + 1 + 1) 2 (by omega) _ R bs _ _ _ k890 (by omega) (SlLt.low1 hs hb889 hlo) (by first | exact hb | exact fun b h => hb b (List.mem_of_mem_take h)) (by first | omega | (rw [List.length_take]; omega))) ?_
      rintro _ w896 ⟨k891, rfl, hk892, hk893, kR894, hg895⟩
      have hb897 := grown_trans hb889 hg895
      refine wpo_indexAddr (o' := (k891).toNat * 1) es_43 rfl rfl (by omega) (by omega) (by omega) rfl ?_
      have k898 := (hN886.blk.grown hg895 (some_ne (by omega)))
      obtain ⟨x899, hx900⟩ := get_lt (l := ([0, 10] : List Int)) (i := (k891).toNat) (show (k891).toNat < 2 by omega)
      have hm901 := List.mem_of_getElem? hx900
      simp only [List.mem_cons, List.not_mem_nil, or_false] at hm901
      refine wpo_load1 (v := .int .i64 x899) ot_3 rfl ((rows_range wide_int k898 hx900) 0 _ rfl) rfl ?_
      refine wpo_fieldAddr (o' := 0) fo_76_0 e163 rfl rfl ?_
      have k902 := ((k888.grown0 hN886.grw).grown hg895 (some_ne (by omega)))
      refine wpo_store1 (v := .int .i64 x899) (cs' := #[.int .i64 x899, .int .i64 k114, .int .i64 aa, .int .i64 k130, .int .i64 k137]) ot_3 rfl rfl rfl k902 (Nat.le_of_ble_eq_true rfl) rfl ?_
      intro w903 hS904
      have hb905 := low1 hb897 hS904.grw (by omega)
      refine wpo_nil ?_
      refine blk_n ?_
      refine thn_n ?_
      refine wpf_seq_region ?_
      refine wpo_loadn (vs := [.int .i64 x899, .int .i64 k114, .int .i64 aa, .int .i64 k130, .int .i64 k137]) rt_76 e163 rfl (hS904.blk.rangeL 0 5 rfl) rfl ?_
      have k906 := (((k887.grown0 hN886.grw).grown hg895 (some_ne (by omega))).grown hS904.grw (some_ne (by omega)))
      refine wpo_storen (vs := [.int .i64 x899, .int .i64 k114, .int .i64 aa, .int .i64 k130, .int .i64 k137]) (cs' := #[.int .i64 x899, .int .i64 k114, .int .i64 aa, .int .i64 k130, .int .i64 k137]) rt_76 e162 rfl rfl (by simp [Value.oneCell']) k906 (Nat.le_of_ble_eq_true rfl) rfl ?_
      intro w907 hS908
      have hb909 := low1 hb905 hS908.grw (by omega)
      refine wpo_nil ?_
      refine wpf_ret ?_
      have k910 := ((kR894.grown hS904.grw (some_ne (by omega))).grown hS908.grw (some_ne (by omega)))
      refine ⟨.agg #[.int .i64 x899, .int .i64 k114, .int .i64 aa, .int .i64 k130, .int .i64 k137], resC rfl (resCell_mk (vs := [.int .i64 x899, .int .i64 k114, .int .i64 aa, .int .i64 k130, .int .i64 k137]) rt_76 e162 rfl (hS908.blk.rangeL 0 5 rfl)), ⟨x899, k114, aa, k130, k137⟩, (p1 + 1 + 1 + 1), rfl, ⟨⟨show (0 : Int) ≤ x899 by omega, show x899 ≤ (10 : Int) by omega⟩, ⟨show (1 : Int) ≤ k114 by omega, show k114 ≤ (ms.length : Int) by omega⟩, ⟨show (-1 : Int) ≤ aa by omega, show aa ≤ (4 : Int) by omega⟩, ⟨show (0 : Int) ≤ k130 by omega, show k130 ≤ (3 : Int) by omega⟩, show (-1 : Int) ≤ k137 by omega, show k137 ≤ (100 : Int) by omega⟩, by omega, by omega, k910, hb909⟩
     ·
      have h911 := of_decide_eq_false h882
      refine wpf_seq_region ?_
      refine wpo_eql (q := decide (k875 = 1)) rfl rfl rfl rfl ?_
      refine wpo_assign (v := .bool (decide (k875 = 1))) rfl rfl ?_
      refine wpo_nil ?_
      refine wpf_cond rfl (fun h912 => ?_) (fun h912 => ?_)
      ·
       have h913 := of_decide_eq_true h912
       refine wpf_region ?_
       refine wpo_buildSlice (ps := [(0, .int .i64 (-1)), (1, .int .i64 4)]) (e := 3) (cs := (([(-1), 4] : List Int).flatMap icell).toArray) (parts_cons rfl (parts_cons rfl parts_nil)) (fun _ => by kernel_rfl) rfl ?_
       intro B914 w915 hN916
       have hlB914 := hN_ge hN916 hb881
       have hhiB914 : hi ≤ B914 := Nat.le_trans (Nat.le_trans (Nat.le_trans (Nat.le_trans hhs hg196.size) hg204.size) hg879.size) (Nat.le_of_eq hN916.eq.symm)
       have k917 := (((k164.grown hg196 (some_ne (by omega))).grown0 hg204).grown hg879 (some_ne (by omega)))
       have lt_B101_B914 := hN_gtl hN916 (k917).lt
       have k918 := (k207.grown hg879 (some_ne (by omega)))
       have lt_B144_B914 := hN_gtl hN916 (k918).lt
       have lt_R_B914 := hN_gtl hN916 (kR878).lt
       have hb919 := low0 hb881 hN916.grw
       refine wpo_move (v := .pointer (some ⟨R, 0, none⟩)) e160 rfl ?_
       have k920 := (kR878.grown0 hN916.grw)
       refine wpo_call (vs := [.pointer (some ⟨R, 0, none⟩), .int .i64 2]) gf_60 (args_cons rfl (args_cons rfl args_nil)) rfl (pick_c (p1 + 1 + 1) 2 (by omega) _ R bs _ _ _ k920 (by omega) (SlLt.low1 hs hb919 hlo) (by first | exact hb | exact fun b h => hb b (List.mem_of_mem_take h)) (by first | omega | (rw [List.length_take]; omega))) ?_
       rintro _ w926 ⟨k921, rfl, hk922, hk923, kR924, hg925⟩
       have hb927 := grown_trans hb919 hg925
       refine wpo_indexAddr (o' := (k921).toNat * 1) es_43 rfl rfl (by omega) (by omega) (by omega) rfl ?_
       have k928 := (hN916.blk.grown hg925 (some_ne (by omega)))
       obtain ⟨x929, hx930⟩ := get_lt (l := ([(-1), 4] : List Int)) (i := (k921).toNat) (show (k921).toNat < 2 by omega)
       have hm931 := List.mem_of_getElem? hx930
       simp only [List.mem_cons, List.not_mem_nil, or_false] at hm931
       refine wpo_load1 (v := .int .i64 x929) ot_3 rfl ((rows_range wide_int k928 hx930) 0 _ rfl) rfl ?_
       refine wpo_fieldAddr (o' := 2) fo_76_2 e163 rfl rfl ?_
       have k932 := ((k918.grown0 hN916.grw).grown hg925 (some_ne (by omega)))
       refine wpo_store1 (v := .int .i64 x929) (cs' := #[.int .i64 kk, .int .i64 k114, .int .i64 x929, .int .i64 k130, .int .i64 k137]) ot_3 rfl rfl rfl k932 (Nat.le_of_ble_eq_true rfl) rfl ?_
       intro w933 hS934
       have hb935 := low1 hb927 hS934.grw (by omega)
       refine wpo_nil ?_
       refine blk_n ?_
       refine thn_n ?_
       refine wpf_seq_region ?_
       refine wpo_loadn (vs := [.int .i64 kk, .int .i64 k114, .int .i64 x929, .int .i64 k130, .int .i64 k137]) rt_76 e163 rfl (hS934.blk.rangeL 0 5 rfl) rfl ?_
       have k936 := (((k917.grown0 hN916.grw).grown hg925 (some_ne (by omega))).grown hS934.grw (some_ne (by omega)))
       refine wpo_storen (vs := [.int .i64 kk, .int .i64 k114, .int .i64 x929, .int .i64 k130, .int .i64 k137]) (cs' := #[.int .i64 kk, .int .i64 k114, .int .i64 x929, .int .i64 k130, .int .i64 k137]) rt_76 e162 rfl rfl (by simp [Value.oneCell']) k936 (Nat.le_of_ble_eq_true rfl) rfl ?_
       intro w937 hS938
       have hb939 := low1 hb935 hS938.grw (by omega)
       refine wpo_nil ?_
       refine wpf_ret ?_
       have k940 := ((kR924.grown hS934.grw (some_ne (by omega))).grown hS938.grw (some_ne (by omega)))
       refine ⟨.agg #[.int .i64 kk, .int .i64 k114, .int .i64 x929, .int .i64 k130, .int .i64 k137], resC rfl (resCell_mk (vs := [.int .i64 kk, .int .i64 k114, .int .i64 x929, .int .i64 k130, .int .i64 k137]) rt_76 e162 rfl (hS938.blk.rangeL 0 5 rfl)), ⟨kk, k114, x929, k130, k137⟩, (p1 + 1 + 1 + 1), rfl, ⟨⟨show (0 : Int) ≤ kk by omega, show kk ≤ (10 : Int) by omega⟩, ⟨show (1 : Int) ≤ k114 by omega, show k114 ≤ (ms.length : Int) by omega⟩, ⟨show (-1 : Int) ≤ x929 by omega, show x929 ≤ (4 : Int) by omega⟩, ⟨show (0 : Int) ≤ k130 by omega, show k130 ≤ (3 : Int) by omega⟩, show (-1 : Int) ≤ k137 by omega, show k137 ≤ (100 : Int) by omega⟩, by omega, by omega, k940, hb939⟩
      ·
       have h941 := of_decide_eq_false h912
       refine wpf_seq_region ?_
       refine wpo_eql (q := decide (k875 = 2)) rfl rfl rfl rfl ?_
       refine wpo_assign (v := .bool (decide (k875 = 2))) rfl rfl ?_
       refine wpo_nil ?_
       refine wpf_cond rfl (fun h942 => ?_) (fun h942 => ?_)
       ·
        have h943 := of_decide_eq_true h942
        refine wpf_region ?_
        refine wpo_buildSlice (ps := [(0, .int .i64 (-1)), (1, .int .i64 100)]) (e := 3) (cs := (([(-1), 100] : List Int).flatMap icell).toArray) (parts_cons rfl (parts_cons rfl parts_nil)) (fun _ => by kernel_rfl) rfl ?_
        intro B944 w945 hN946
        have hlB944 := hN_ge hN946 hb881
        have hhiB944 : hi ≤ B944 := Nat.le_trans (Nat.le_trans (Nat.le_trans (Nat.le_trans hhs hg196.size) hg204.size) hg879.size) (Nat.le_of_eq hN946.eq.symm)
        have k947 := (((k164.grown hg196 (some_ne (by omega))).grown0 hg204).grown hg879 (some_ne (by omega)))
        have lt_B101_B944 := hN_gtl hN946 (k947).lt
        have k948 := (k207.grown hg879 (some_ne (by omega)))
        have lt_B144_B944 := hN_gtl hN946 (k948).lt
        have lt_R_B944 := hN_gtl hN946 (kR878).lt
        have hb949 := low0 hb881 hN946.grw
        refine wpo_move (v := .pointer (some ⟨R, 0, none⟩)) e160 rfl ?_
        have k950 := (kR878.grown0 hN946.grw)
        refine wpo_call (vs := [.pointer (some ⟨R, 0, none⟩), .int .i64 2]) gf_60 (args_cons rfl (args_cons rfl args_nil)) rfl (pick_c (p1 + 1 + 1) 2 (by omega) _ R bs _ _ _ k950 (by omega) (SlLt.low1 hs hb949 hlo) (by first | exact hb | exact fun b h => hb b (List.mem_of_mem_take h)) (by first | omega | (rw [List.length_take]; omega))) ?_
        rintro _ w956 ⟨k951, rfl, hk952, hk953, kR954, hg955⟩
        have hb957 := grown_trans hb949 hg955
        refine wpo_indexAddr (o' := (k951).toNat * 1) es_43 rfl rfl (by omega) (by omega) (by omega) rfl ?_
        have k958 := (hN946.blk.grown hg955 (some_ne (by omega)))
        obtain ⟨x959, hx960⟩ := get_lt (l := ([(-1), 100] : List Int)) (i := (k951).toNat) (show (k951).toNat < 2 by omega)
        have hm961 := List.mem_of_getElem? hx960
        simp only [List.mem_cons, List.not_mem_nil, or_false] at hm961
        refine wpo_load1 (v := .int .i64 x959) ot_3 rfl ((rows_range wide_int k958 hx960) 0 _ rfl) rfl ?_
        refine wpo_fieldAddr (o' := 4) fo_76_4 e163 rfl rfl ?_
        have k962 := ((k948.grown0 hN946.grw).grown hg955 (some_ne (by omega)))
        refine wpo_store1 (v := .int .i64 x959) (cs' := #[.int .i64 kk, .int .i64 k114, .int .i64 aa, .int .i64 k130, .int .i64 x959]) ot_3 rfl rfl rfl k962 (Nat.le_of_ble_eq_true rfl) rfl ?_
        intro w963 hS964
        have hb965 := low1 hb957 hS964.grw (by omega)
        refine wpo_nil ?_
        refine blk_n ?_
        refine thn_n ?_
        refine wpf_seq_region ?_
        refine wpo_loadn (vs := [.int .i64 kk, .int .i64 k114, .int .i64 aa, .int .i64 k130, .int .i64 x959]) rt_76 e163 rfl (hS964.blk.rangeL 0 5 rfl) rfl ?_
        have k966 := (((k947.grown0 hN946.grw).grown hg955 (some_ne (by omega))).grown hS964.grw (some_ne (by omega)))
        refine wpo_storen (vs := [.int .i64 kk, .int .i64 k114, .int .i64 aa, .int .i64 k130, .int .i64 x959]) (cs' := #[.int .i64 kk, .int .i64 k114, .int .i64 aa, .int .i64 k130, .int .i64 x959]) rt_76 e162 rfl rfl (by simp [Value.oneCell']) k966 (Nat.le_of_ble_eq_true rfl) rfl ?_
        intro w967 hS968
        have hb969 := low1 hb965 hS968.grw (by omega)
        refine wpo_nil ?_
        refine wpf_ret ?_
        have k970 := ((kR954.grown hS964.grw (some_ne (by omega))).grown hS968.grw (some_ne (by omega)))
        refine ⟨.agg #[.int .i64 kk, .int .i64 k114, .int .i64 aa, .int .i64 k130, .int .i64 x959], resC rfl (resCell_mk (vs := [.int .i64 kk, .int .i64 k114, .int .i64 aa, .int .i64 k130, .int .i64 x959]) rt_76 e162 rfl (hS968.blk.rangeL 0 5 rfl)), ⟨kk, k114, aa, k130, x959⟩, (p1 + 1 + 1 + 1), rfl, ⟨⟨show (0 : Int) ≤ kk by omega, show kk ≤ (10 : Int) by omega⟩, ⟨show (1 : Int) ≤ k114 by omega, show k114 ≤ (ms.length : Int) by omega⟩, ⟨show (-1 : Int) ≤ aa by omega, show aa ≤ (4 : Int) by omega⟩, ⟨show (0 : Int) ≤ k130 by omega, show k130 ≤ (3 : Int) by omega⟩, show (-1 : Int) ≤ x959 by omega, show x959 ≤ (100 : Int) by omega⟩, by omega, by omega, k970, hb969⟩
       ·
        have h971 := of_decide_eq_false h942
        refine wpf_skip ?_
        refine blk_n ?_
        refine thn_n ?_
        refine wpf_seq_region ?_
        have k972 := (k207.grown hg879 (some_ne (by omega)))
        refine wpo_loadn (vs := [.int .i64 kk, .int .i64 k114, .int .i64 aa, .int .i64 k130, .int .i64 k137]) rt_76 e163 rfl (k972.rangeL 0 5 rfl) rfl ?_
        have k973 := (((k164.grown hg196 (some_ne (by omega))).grown0 hg204).grown hg879 (some_ne (by omega)))
        refine wpo_storen (vs := [.int .i64 kk, .int .i64 k114, .int .i64 aa, .int .i64 k130, .int .i64 k137]) (cs' := #[.int .i64 kk, .int .i64 k114, .int .i64 aa, .int .i64 k130, .int .i64 k137]) rt_76 e162 rfl rfl (by simp [Value.oneCell']) k973 (Nat.le_of_ble_eq_true rfl) rfl ?_
        intro w974 hS975
        have hb976 := low1 hb881 hS975.grw (by omega)
        refine wpo_nil ?_
        refine wpf_ret ?_
        have k977 := (kR878.grown hS975.grw (some_ne (by omega)))
        refine ⟨.agg #[.int .i64 kk, .int .i64 k114, .int .i64 aa, .int .i64 k130, .int .i64 k137], resC rfl (resCell_mk (vs := [.int .i64 kk, .int .i64 k114, .int .i64 aa, .int .i64 k130, .int .i64 k137]) rt_76 e162 rfl (hS975.blk.rangeL 0 5 rfl)), ⟨kk, k114, aa, k130, k137⟩, (p1 + 1 + 1), rfl, ⟨⟨show (0 : Int) ≤ kk by omega, show kk ≤ (10 : Int) by omega⟩, ⟨show (1 : Int) ≤ k114 by omega, show k114 ≤ (ms.length : Int) by omega⟩, ⟨show (-1 : Int) ≤ aa by omega, show aa ≤ (4 : Int) by omega⟩, ⟨show (0 : Int) ≤ k130 by omega, show k130 ≤ (3 : Int) by omega⟩, show (-1 : Int) ≤ k137 by omega, show k137 ≤ (100 : Int) by omega⟩, by omega, by omega, k977, hb976⟩
   ·
    iterate 9 refine wpo_pass rfl rfl rfl h206 rfl ?_
    refine wpo_pickf (v := .bool false) rfl h206 rfl rfl ?_
    refine wpo_nil ?_
    refine wpf_condf rfl rfl ?_
    refine wpf_exit ?_
    refine thn_e ?_
    refine thn_e ?_
    refine blk_e ?_
    refine thn_n ?_
    refine wpf_seq ?_
    refine wpf_seq_region ?_
    refine wpo_move (v := .pointer (some ⟨R, 0, none⟩)) e160 rfl ?_
    have k978 := (kR195.grown0 hg204)
    refine wpo_call (vs := [.pointer (some ⟨R, 0, none⟩), .int .i64 50]) gf_60 (args_cons rfl (args_cons rfl args_nil)) rfl (pick_c (p1 + 1) 50 (by omega) _ R bs _ _ _ k978 (by omega) (SlLt.low1 hs hb205 hlo) (by first | exact hb | exact fun b h => hb b (List.mem_of_mem_take h)) (by first | omega | (rw [List.length_take]; omega))) ?_
    rintro _ w984 ⟨k979, rfl, hk980, hk981, kR982, hg983⟩
    have hb985 := grown_trans hb205 hg983
    refine wpo_nil ?_
    refine wpf_block ?_
    refine wpf_seq_region ?_
    refine wpo_eql (q := decide (k979 = 0)) rfl rfl rfl rfl ?_
    refine wpo_assign (v := .bool (decide (k979 = 0))) rfl rfl ?_
    refine wpo_nil ?_
    refine wpf_cond rfl (fun h986 => ?_) (fun h986 => ?_)
    ·
     have h987 := of_decide_eq_true h986
     refine wpf_region ?_
     refine wpo_buildSlice (ps := [(0, .int .i64 0), (1, .int .i64 10)]) (e := 3) (cs := (([0, 10] : List Int).flatMap icell).toArray) (parts_cons rfl (parts_cons rfl parts_nil)) (fun _ => by kernel_rfl) rfl ?_
     intro B988 w989 hN990
     have hlB988 := hN_ge hN990 hb985
     have hhiB988 : hi ≤ B988 := Nat.le_trans (Nat.le_trans (Nat.le_trans (Nat.le_trans hhs hg196.size) hg204.size) hg983.size) (Nat.le_of_eq hN990.eq.symm)
     have k991 := (((k164.grown hg196 (some_ne (by omega))).grown0 hg204).grown hg983 (some_ne (by omega)))
     have lt_B101_B988 := hN_gtl hN990 (k991).lt
     have k992 := ((k201.grown0 hg204).grown hg983 (some_ne (by omega)))
     have lt_B144_B988 := hN_gtl hN990 (k992).lt
     have lt_R_B988 := hN_gtl hN990 (kR982).lt
     have hb993 := low0 hb985 hN990.grw
     refine wpo_move (v := .pointer (some ⟨R, 0, none⟩)) e160 rfl ?_
     have k994 := (kR982.grown0 hN990.grw)
     refine wpo_call (vs := [.pointer (some ⟨R, 0, none⟩), .int .i64 2]) gf_60 (args_cons rfl (args_cons rfl args_nil)) rfl (pick_c (p1 + 1 + 1) 2 (by omega) _ R bs _ _ _ k994 (by omega) (SlLt.low1 hs hb993 hlo) (by first | exact hb | exact fun b h => hb b (List.mem_of_mem_take h)) (by first | omega | (rw [List.length_take]; omega))) ?_
     rintro _ w1000 ⟨k995, rfl, hk996, hk997, kR998, hg999⟩
     have hb1001 := grown_trans hb993 hg999
     refine wpo_indexAddr (o' := (k995).toNat * 1) es_43 rfl rfl (by omega) (by omega) (by omega) rfl ?_
     have k1002 := (hN990.blk.grown hg999 (some_ne (by omega)))
     obtain ⟨x1003, hx1004⟩ := get_lt (l := ([0, 10] : List Int)) (i := (k995).toNat) (show (k995).toNat < 2 by omega)
     have hm1005 := List.mem_of_getElem? hx1004
     simp only [List.mem_cons, List.not_mem_nil, or_false] at hm1005
     refine wpo_load1 (v := .int .i64 x1003) ot_3 rfl ((rows_range wide_int k1002 hx1004) 0 _ rfl) rfl ?_
     refine wpo_fieldAddr (o' := 0) fo_76_0 e163 rfl rfl ?_
     have k1006 := ((k992.grown0 hN990.grw).grown hg999 (some_ne (by omega)))
     refine wpo_store1 (v := .int .i64 x1003) (cs' := #[.int .i64 x1003, .int .i64 k114, .int .i64 aa, .int .i64 k130, .int .i64 k137]) ot_3 rfl rfl rfl k1006 (Nat.le_of_ble_eq_true rfl) rfl ?_
     intro w1007 hS1008
     have hb1009 := low1 hb1001 hS1008.grw (by omega)
     refine wpo_nil ?_
     refine blk_n ?_
     refine thn_n ?_
     refine wpf_seq_region ?_
     refine wpo_loadn (vs := [.int .i64 x1003, .int .i64 k114, .int .i64 aa, .int .i64 k130, .int .i64 k137]) rt_76 e163 rfl (hS1008.blk.rangeL 0 5 rfl) rfl ?_
     have k1010 := (((k991.grown0 hN990.grw).grown hg999 (some_ne (by omega))).grown hS1008.grw (some_ne (by omega)))
     refine wpo_storen (vs := [.int .i64 x1003, .int .i64 k114, .int .i64 aa, .int .i64 k130, .int .i64 k137]) (cs' := #[.int .i64 x1003, .int .i64 k114, .int .i64 aa, .int .i64 k130, .int .i64 k137]) rt_76 e162 rfl rfl (by simp [Value.oneCell']) k1010 (Nat.le_of_ble_eq_true rfl) rfl ?_
     intro w1011 hS1012
     have hb1013 := low1 hb1009 hS1012.grw (by omega)
     refine wpo_nil ?_
     refine wpf_ret ?_
     have k1014 := ((kR998.grown hS1008.grw (some_ne (by omega))).grown hS1012.grw (some_ne (by omega)))
     refine ⟨.agg #[.int .i64 x1003, .int .i64 k114, .int .i64 aa, .int .i64 k130, .int .i64 k137], resC rfl (resCell_mk (vs := [.int .i64 x1003, .int .i64 k114, .int .i64 aa, .int .i64 k130, .int .i64 k137]) rt_76 e162 rfl (hS1012.blk.rangeL 0 5 rfl)), ⟨x1003, k114, aa, k130, k137⟩, (p1 + 1 + 1 + 1), rfl, ⟨⟨show (0 : Int) ≤ x1003 by omega, show x1003 ≤ (10 : Int) by omega⟩, ⟨show (1 : Int) ≤ k114 by omega, show k114 ≤ (ms.length : Int) by omega⟩, ⟨show (-1 : Int) ≤ aa by omega, show aa ≤ (4 : Int) by omega⟩, ⟨show (0 : Int) ≤ k130 by omega, show k130 ≤ (3 : Int) by omega⟩, show (-1 : Int) ≤ k137 by omega, show k137 ≤ (100 : Int) by omega⟩, by omega, by omega, k1014, hb1013⟩
    ·
     have h1015 := of_decide_eq_false h986
     refine wpf_seq_region ?_
     refine wpo_eql (q := decide (k979 = 1)) rfl rfl rfl rfl ?_
     refine wpo_assign (v := .bool (decide (k979 = 1))) rfl rfl ?_
     refine wpo_nil ?_
     refine wpf_cond rfl (fun h1016 => ?_) (fun h1016 => ?_)
     ·
      have h1017 := of_decide_eq_true h1016
      refine wpf_region ?_
      refine wpo_buildSlice (ps := [(0, .int .i64 (-1)), (1, .int .i64 4)]) (e := 3) (cs := (([(-1), 4] : List Int).flatMap icell).toArray) (parts_cons rfl (parts_cons rfl parts_nil)) (fun _ => by kernel_rfl) rfl ?_
      intro B1018 w1019 hN1020
      have hlB1018 := hN_ge hN1020 hb985
      have hhiB1018 : hi ≤ B1018 := Nat.le_trans (Nat.le_trans (Nat.le_trans (Nat.le_trans hhs hg196.size) hg204.size) hg983.size) (Nat.le_of_eq hN1020.eq.symm)
      have k1021 := (((k164.grown hg196 (some_ne (by omega))).grown0 hg204).grown hg983 (some_ne (by omega)))
      have lt_B101_B1018 := hN_gtl hN1020 (k1021).lt
      have k1022 := ((k201.grown0 hg204).grown hg983 (some_ne (by omega)))
      have lt_B144_B1018 := hN_gtl hN1020 (k1022).lt
      have lt_R_B1018 := hN_gtl hN1020 (kR982).lt
      have hb1023 := low0 hb985 hN1020.grw
      refine wpo_move (v := .pointer (some ⟨R, 0, none⟩)) e160 rfl ?_
      have k1024 := (kR982.grown0 hN1020.grw)
      refine wpo_call (vs := [.pointer (some ⟨R, 0, none⟩), .int .i64 2]) gf_60 (args_cons rfl (args_cons rfl args_nil)) rfl (pick_c (p1 + 1 + 1) 2 (by omega) _ R bs _ _ _ k1024 (by omega) (SlLt.low1 hs hb1023 hlo) (by first | exact hb | exact fun b h => hb b (List.mem_of_mem_take h)) (by first | omega | (rw [List.length_take]; omega))) ?_
      rintro _ w1030 ⟨k1025, rfl, hk1026, hk1027, kR1028, hg1029⟩
      have hb1031 := grown_trans hb1023 hg1029
      refine wpo_indexAddr (o' := (k1025).toNat * 1) es_43 rfl rfl (by omega) (by omega) (by omega) rfl ?_
      have k1032 := (hN1020.blk.grown hg1029 (some_ne (by omega)))
      obtain ⟨x1033, hx1034⟩ := get_lt (l := ([(-1), 4] : List Int)) (i := (k1025).toNat) (show (k1025).toNat < 2 by omega)
      have hm1035 := List.mem_of_getElem? hx1034
      simp only [List.mem_cons, List.not_mem_nil, or_false] at hm1035
      refine wpo_load1 (v := .int .i64 x1033) ot_3 rfl ((rows_range wide_int k1032 hx1034) 0 _ rfl) rfl ?_
      refine wpo_fieldAddr (o' := 2) fo_76_2 e163 rfl rfl ?_
      have k1036 := ((k1022.grown0 hN1020.grw).grown hg1029 (some_ne (by omega)))
      refine wpo_store1 (v := .int .i64 x1033) (cs' := #[.int .i64 kk, .int .i64 k114, .int .i64 x1033, .int .i64 k130, .int .i64 k137]) ot_3 rfl rfl rfl k1036 (Nat.le_of_ble_eq_true rfl) rfl ?_
      intro w1037 hS1038
      have hb1039 := low1 hb1031 hS1038.grw (by omega)
      refine wpo_nil ?_
      refine blk_n ?_
      refine thn_n ?_
      refine wpf_seq_region ?_
      refine wpo_loadn (vs := [.int .i64 kk, .int .i64 k114, .int .i64 x1033, .int .i64 k130, .int .i64 k137]) rt_76 e163 rfl (hS1038.blk.rangeL 0 5 rfl) rfl ?_
      have k1040 := (((k1021.grown0 hN1020.grw).grown hg1029 (some_ne (by omega))).grown hS1038.grw (some_ne (by omega)))
      refine wpo_storen (vs := [.int .i64 kk, .int .i64 k114, .int .i64 x1033, .int .i64 k130, .int .i64 k137]) (cs' := #[.int .i64 kk, .int .i64 k114, .int .i64 x1033, .int .i64 k130, .int .i64 k137]) rt_76 e162 rfl rfl (by simp [Value.oneCell']) k1040 (Nat.le_of_ble_eq_true rfl) rfl ?_
      intro w1041 hS1042
      have hb1043 := low1 hb1039 hS1042.grw (by omega)
      refine wpo_nil ?_
      refine wpf_ret ?_
      have k1044 := ((kR1028.grown hS1038.grw (some_ne (by omega))).grown hS1042.grw (some_ne (by omega)))
      refine ⟨.agg #[.int .i64 kk, .int .i64 k114, .int .i64 x1033, .int .i64 k130, .int .i64 k137], resC rfl (resCell_mk (vs := [.int .i64 kk, .int .i64 k114, .int .i64 x1033, .int .i64 k130, .int .i64 k137]) rt_76 e162 rfl (hS1042.blk.rangeL 0 5 rfl)), ⟨kk, k114, x1033, k130, k137⟩, (p1 + 1 + 1 + 1), rfl, ⟨⟨show (0 : Int) ≤ kk by omega, show kk ≤ (10 : Int) by omega⟩, ⟨show (1 : Int) ≤ k114 by omega, show k114 ≤ (ms.length : Int) by omega⟩, ⟨show (-1 : Int) ≤ x1033 by omega, show x1033 ≤ (4 : Int) by omega⟩, ⟨show (0 : Int) ≤ k130 by omega, show k130 ≤ (3 : Int) by omega⟩, show (-1 : Int) ≤ k137 by omega, show k137 ≤ (100 : Int) by omega⟩, by omega, by omega, k1044, hb1043⟩
     ·
      have h1045 := of_decide_eq_false h1016
      refine wpf_seq_region ?_
      refine wpo_eql (q := decide (k979 = 2)) rfl rfl rfl rfl ?_
      refine wpo_assign (v := .bool (decide (k979 = 2))) rfl rfl ?_
      refine wpo_nil ?_
      refine wpf_cond rfl (fun h1046 => ?_) (fun h1046 => ?_)
      ·
       have h1047 := of_decide_eq_true h1046
       refine wpf_region ?_
       refine wpo_buildSlice (ps := [(0, .int .i64 (-1)), (1, .int .i64 100)]) (e := 3) (cs := (([(-1), 100] : List Int).flatMap icell).toArray) (parts_cons rfl (parts_cons rfl parts_nil)) (fun _ => by kernel_rfl) rfl ?_
       intro B1048 w1049 hN1050
       have hlB1048 := hN_ge hN1050 hb985
       have hhiB1048 : hi ≤ B1048 := Nat.le_trans (Nat.le_trans (Nat.le_trans (Nat.le_trans hhs hg196.size) hg204.size) hg983.size) (Nat.le_of_eq hN1050.eq.symm)
       have k1051 := (((k164.grown hg196 (some_ne (by omega))).grown0 hg204).grown hg983 (some_ne (by omega)))
       have lt_B101_B1048 := hN_gtl hN1050 (k1051).lt
       have k1052 := ((k201.grown0 hg204).grown hg983 (some_ne (by omega)))
       have lt_B144_B1048 := hN_gtl hN1050 (k1052).lt
       have lt_R_B1048 := hN_gtl hN1050 (kR982).lt
       have hb1053 := low0 hb985 hN1050.grw
       refine wpo_move (v := .pointer (some ⟨R, 0, none⟩)) e160 rfl ?_
       have k1054 := (kR982.grown0 hN1050.grw)
       refine wpo_call (vs := [.pointer (some ⟨R, 0, none⟩), .int .i64 2]) gf_60 (args_cons rfl (args_cons rfl args_nil)) rfl (pick_c (p1 + 1 + 1) 2 (by omega) _ R bs _ _ _ k1054 (by omega) (SlLt.low1 hs hb1053 hlo) (by first | exact hb | exact fun b h => hb b (List.mem_of_mem_take h)) (by first | omega | (rw [List.length_take]; omega))) ?_
       rintro _ w1060 ⟨k1055, rfl, hk1056, hk1057, kR1058, hg1059⟩
       have hb1061 := grown_trans hb1053 hg1059
       refine wpo_indexAddr (o' := (k1055).toNat * 1) es_43 rfl rfl (by omega) (by omega) (by omega) rfl ?_
       have k1062 := (hN1050.blk.grown hg1059 (some_ne (by omega)))
       obtain ⟨x1063, hx1064⟩ := get_lt (l := ([(-1), 100] : List Int)) (i := (k1055).toNat) (show (k1055).toNat < 2 by omega)
       have hm1065 := List.mem_of_getElem? hx1064
       simp only [List.mem_cons, List.not_mem_nil, or_false] at hm1065
       refine wpo_load1 (v := .int .i64 x1063) ot_3 rfl ((rows_range wide_int k1062 hx1064) 0 _ rfl) rfl ?_
       refine wpo_fieldAddr (o' := 4) fo_76_4 e163 rfl rfl ?_
       have k1066 := ((k1052.grown0 hN1050.grw).grown hg1059 (some_ne (by omega)))
       refine wpo_store1 (v := .int .i64 x1063) (cs' := #[.int .i64 kk, .int .i64 k114, .int .i64 aa, .int .i64 k130, .int .i64 x1063]) ot_3 rfl rfl rfl k1066 (Nat.le_of_ble_eq_true rfl) rfl ?_
       intro w1067 hS1068
       have hb1069 := low1 hb1061 hS1068.grw (by omega)
       refine wpo_nil ?_
       refine blk_n ?_
       refine thn_n ?_
       refine wpf_seq_region ?_
       refine wpo_loadn (vs := [.int .i64 kk, .int .i64 k114, .int .i64 aa, .int .i64 k130, .int .i64 x1063]) rt_76 e163 rfl (hS1068.blk.rangeL 0 5 rfl) rfl ?_
       have k1070 := (((k1051.grown0 hN1050.grw).grown hg1059 (some_ne (by omega))).grown hS1068.grw (some_ne (by omega)))
       refine wpo_storen (vs := [.int .i64 kk, .int .i64 k114, .int .i64 aa, .int .i64 k130, .int .i64 x1063]) (cs' := #[.int .i64 kk, .int .i64 k114, .int .i64 aa, .int .i64 k130, .int .i64 x1063]) rt_76 e162 rfl rfl (by simp [Value.oneCell']) k1070 (Nat.le_of_ble_eq_true rfl) rfl ?_
       intro w1071 hS1072
       have hb1073 := low1 hb1069 hS1072.grw (by omega)
       refine wpo_nil ?_
       refine wpf_ret ?_
       have k1074 := ((kR1058.grown hS1068.grw (some_ne (by omega))).grown hS1072.grw (some_ne (by omega)))
       refine ⟨.agg #[.int .i64 kk, .int .i64 k114, .int .i64 aa, .int .i64 k130, .int .i64 x1063], resC rfl (resCell_mk (vs := [.int .i64 kk, .int .i64 k114, .int .i64 aa, .int .i64 k130, .int .i64 x1063]) rt_76 e162 rfl (hS1072.blk.rangeL 0 5 rfl)), ⟨kk, k114, aa, k130, x1063⟩, (p1 + 1 + 1 + 1), rfl, ⟨⟨show (0 : Int) ≤ kk by omega, show kk ≤ (10 : Int) by omega⟩, ⟨show (1 : Int) ≤ k114 by omega, show k114 ≤ (ms.length : Int) by omega⟩, ⟨show (-1 : Int) ≤ aa by omega, show aa ≤ (4 : Int) by omega⟩, ⟨show (0 : Int) ≤ k130 by omega, show k130 ≤ (3 : Int) by omega⟩, show (-1 : Int) ≤ x1063 by omega, show x1063 ≤ (100 : Int) by omega⟩, by omega, by omega, k1074, hb1073⟩
      ·
       have h1075 := of_decide_eq_false h1046
       refine wpf_skip ?_
       refine blk_n ?_
       refine thn_n ?_
       refine wpf_seq_region ?_
       have k1076 := ((k201.grown0 hg204).grown hg983 (some_ne (by omega)))
       refine wpo_loadn (vs := [.int .i64 kk, .int .i64 k114, .int .i64 aa, .int .i64 k130, .int .i64 k137]) rt_76 e163 rfl (k1076.rangeL 0 5 rfl) rfl ?_
       have k1077 := (((k164.grown hg196 (some_ne (by omega))).grown0 hg204).grown hg983 (some_ne (by omega)))
       refine wpo_storen (vs := [.int .i64 kk, .int .i64 k114, .int .i64 aa, .int .i64 k130, .int .i64 k137]) (cs' := #[.int .i64 kk, .int .i64 k114, .int .i64 aa, .int .i64 k130, .int .i64 k137]) rt_76 e162 rfl rfl (by simp [Value.oneCell']) k1077 (Nat.le_of_ble_eq_true rfl) rfl ?_
       intro w1078 hS1079
       have hb1080 := low1 hb985 hS1079.grw (by omega)
       refine wpo_nil ?_
       refine wpf_ret ?_
       have k1081 := (kR982.grown hS1079.grw (some_ne (by omega)))
       refine ⟨.agg #[.int .i64 kk, .int .i64 k114, .int .i64 aa, .int .i64 k130, .int .i64 k137], resC rfl (resCell_mk (vs := [.int .i64 kk, .int .i64 k114, .int .i64 aa, .int .i64 k130, .int .i64 k137]) rt_76 e162 rfl (hS1079.blk.rangeL 0 5 rfl)), ⟨kk, k114, aa, k130, k137⟩, (p1 + 1 + 1), rfl, ⟨⟨show (0 : Int) ≤ kk by omega, show kk ≤ (10 : Int) by omega⟩, ⟨show (1 : Int) ≤ k114 by omega, show k114 ≤ (ms.length : Int) by omega⟩, ⟨show (-1 : Int) ≤ aa by omega, show aa ≤ (4 : Int) by omega⟩, ⟨show (0 : Int) ≤ k130 by omega, show k130 ≤ (3 : Int) by omega⟩, show (-1 : Int) ≤ k137 by omega, show k137 ≤ (100 : Int) by omega⟩, by omega, by omega, k1081, hb1080⟩
  ·
   have h1082 := of_decide_eq_false h199
   iterate 4 refine wpo_pass rfl rfl rfl h199 rfl ?_
   refine wpo_pickf (v := .bool false) rfl h199 rfl rfl ?_
   refine wpo_move (v := .bool false) rfl rfl ?_
   iterate 9 refine wpo_pass rfl rfl rfl rfl rfl ?_
   refine wpo_pickf (v := .bool false) rfl rfl rfl rfl ?_
   refine wpo_nil ?_
   refine wpf_condf rfl rfl ?_
   refine wpf_exit ?_
   refine thn_e ?_
   refine thn_e ?_
   refine blk_e ?_
   refine thn_n ?_
   refine wpf_seq ?_
   refine wpf_seq_region ?_
   refine wpo_move (v := .pointer (some ⟨R, 0, none⟩)) e160 rfl ?_
   refine wpo_call (vs := [.pointer (some ⟨R, 0, none⟩), .int .i64 50]) gf_60 (args_cons rfl (args_cons rfl args_nil)) rfl (pick_c (p1 + 1) 50 (by omega) _ R bs _ _ _ kR195 (by omega) (SlLt.low1 hs hb198 hlo) (by first | exact hb | exact fun b h => hb b (List.mem_of_mem_take h)) (by first | omega | (rw [List.length_take]; omega))) ?_
   rintro _ w1088 ⟨k1083, rfl, hk1084, hk1085, kR1086, hg1087⟩
   have hb1089 := grown_trans hb198 hg1087
   refine wpo_nil ?_
   refine wpf_block ?_
   refine wpf_seq_region ?_
   refine wpo_eql (q := decide (k1083 = 0)) rfl rfl rfl rfl ?_
   refine wpo_assign (v := .bool (decide (k1083 = 0))) rfl rfl ?_
   refine wpo_nil ?_
   refine wpf_cond rfl (fun h1090 => ?_) (fun h1090 => ?_)
   ·
    have h1091 := of_decide_eq_true h1090
    refine wpf_region ?_
    refine wpo_buildSlice (ps := [(0, .int .i64 0), (1, .int .i64 10)]) (e := 3) (cs := (([0, 10] : List Int).flatMap icell).toArray) (parts_cons rfl (parts_cons rfl parts_nil)) (fun _ => by kernel_rfl) rfl ?_
    intro B1092 w1093 hN1094
    have hlB1092 := hN_ge hN1094 hb1089
    have hhiB1092 : hi ≤ B1092 := Nat.le_trans (Nat.le_trans (Nat.le_trans hhs hg196.size) hg1087.size) (Nat.le_of_eq hN1094.eq.symm)
    have k1095 := ((k164.grown hg196 (some_ne (by omega))).grown hg1087 (some_ne (by omega)))
    have lt_B101_B1092 := hN_gtl hN1094 (k1095).lt
    have k1096 := ((k165.grown hg196 (some_ne (by omega))).grown hg1087 (some_ne (by omega)))
    have lt_B144_B1092 := hN_gtl hN1094 (k1096).lt
    have lt_R_B1092 := hN_gtl hN1094 (kR1086).lt
    have hb1097 := low0 hb1089 hN1094.grw
    refine wpo_move (v := .pointer (some ⟨R, 0, none⟩)) e160 rfl ?_
    have k1098 := (kR1086.grown0 hN1094.grw)
    refine wpo_call (vs := [.pointer (some ⟨R, 0, none⟩), .int .i64 2]) gf_60 (args_cons rfl (args_cons rfl args_nil)) rfl (pick_c (p1 + 1 + 1) 2 (by omega) _ R bs _ _ _ k1098 (by omega) (SlLt.low1 hs hb1097 hlo) (by first | exact hb | exact fun b h => hb b (List.mem_of_mem_take h)) (by first | omega | (rw [List.length_take]; omega))) ?_
    rintro _ w1104 ⟨k1099, rfl, hk1100, hk1101, kR1102, hg1103⟩
    have hb1105 := grown_trans hb1097 hg1103
    refine wpo_indexAddr (o' := (k1099).toNat * 1) es_43 rfl rfl (by omega) (by omega) (by omega) rfl ?_
    have k1106 := (hN1094.blk.grown hg1103 (some_ne (by omega)))
    obtain ⟨x1107, hx1108⟩ := get_lt (l := ([0, 10] : List Int)) (i := (k1099).toNat) (show (k1099).toNat < 2 by omega)
    have hm1109 := List.mem_of_getElem? hx1108
    simp only [List.mem_cons, List.not_mem_nil, or_false] at hm1109
    refine wpo_load1 (v := .int .i64 x1107) ot_3 rfl ((rows_range wide_int k1106 hx1108) 0 _ rfl) rfl ?_
    refine wpo_fieldAddr (o' := 0) fo_76_0 e163 rfl rfl ?_
    have k1110 := ((k1096.grown0 hN1094.grw).grown hg1103 (some_ne (by omega)))
    refine wpo_store1 (v := .int .i64 x1107) (cs' := #[.int .i64 x1107, .int .i64 k114, .int .i64 aa, .int .i64 k130, .int .i64 k137]) ot_3 rfl rfl rfl k1110 (Nat.le_of_ble_eq_true rfl) rfl ?_
    intro w1111 hS1112
    have hb1113 := low1 hb1105 hS1112.grw (by omega)
    refine wpo_nil ?_
    refine blk_n ?_
    refine thn_n ?_
    refine wpf_seq_region ?_
    refine wpo_loadn (vs := [.int .i64 x1107, .int .i64 k114, .int .i64 aa, .int .i64 k130, .int .i64 k137]) rt_76 e163 rfl (hS1112.blk.rangeL 0 5 rfl) rfl ?_
    have k1114 := (((k1095.grown0 hN1094.grw).grown hg1103 (some_ne (by omega))).grown hS1112.grw (some_ne (by omega)))
    refine wpo_storen (vs := [.int .i64 x1107, .int .i64 k114, .int .i64 aa, .int .i64 k130, .int .i64 k137]) (cs' := #[.int .i64 x1107, .int .i64 k114, .int .i64 aa, .int .i64 k130, .int .i64 k137]) rt_76 e162 rfl rfl (by simp [Value.oneCell']) k1114 (Nat.le_of_ble_eq_true rfl) rfl ?_
    intro w1115 hS1116
    have hb1117 := low1 hb1113 hS1116.grw (by omega)
    refine wpo_nil ?_
    refine wpf_ret ?_
    have k1118 := ((kR1102.grown hS1112.grw (some_ne (by omega))).grown hS1116.grw (some_ne (by omega)))
    refine ⟨.agg #[.int .i64 x1107, .int .i64 k114, .int .i64 aa, .int .i64 k130, .int .i64 k137], resC rfl (resCell_mk (vs := [.int .i64 x1107, .int .i64 k114, .int .i64 aa, .int .i64 k130, .int .i64 k137]) rt_76 e162 rfl (hS1116.blk.rangeL 0 5 rfl)), ⟨x1107, k114, aa, k130, k137⟩, (p1 + 1 + 1 + 1), rfl, ⟨⟨show (0 : Int) ≤ x1107 by omega, show x1107 ≤ (10 : Int) by omega⟩, ⟨show (1 : Int) ≤ k114 by omega, show k114 ≤ (ms.length : Int) by omega⟩, ⟨show (-1 : Int) ≤ aa by omega, show aa ≤ (4 : Int) by omega⟩, ⟨show (0 : Int) ≤ k130 by omega, show k130 ≤ (3 : Int) by omega⟩, show (-1 : Int) ≤ k137 by omega, show k137 ≤ (100 : Int) by omega⟩, by omega, by omega, k1118, hb1117⟩
   ·
    have h1119 := of_decide_eq_false h1090
    refine wpf_seq_region ?_
    refine wpo_eql (q := decide (k1083 = 1)) rfl rfl rfl rfl ?_
    refine wpo_assign (v := .bool (decide (k1083 = 1))) rfl rfl ?_
    refine wpo_nil ?_
    refine wpf_cond rfl (fun h1120 => ?_) (fun h1120 => ?_)
    ·
     have h1121 := of_decide_eq_true h1120
     refine wpf_region ?_
     refine wpo_buildSlice (ps := [(0, .int .i64 (-1)), (1, .int .i64 4)]) (e := 3) (cs := (([(-1), 4] : List Int).flatMap icell).toArray) (parts_cons rfl (parts_cons rfl parts_nil)) (fun _ => by kernel_rfl) rfl ?_
     intro B1122 w1123 hN1124
     have hlB1122 := hN_ge hN1124 hb1089
     have hhiB1122 : hi ≤ B1122 := Nat.le_trans (Nat.le_trans (Nat.le_trans hhs hg196.size) hg1087.size) (Nat.le_of_eq hN1124.eq.symm)
     have k1125 := ((k164.grown hg196 (some_ne (by omega))).grown hg1087 (some_ne (by omega)))
     have lt_B101_B1122 := hN_gtl hN1124 (k1125).lt
     have k1126 := ((k165.grown hg196 (some_ne (by omega))).grown hg1087 (some_ne (by omega)))
     have lt_B144_B1122 := hN_gtl hN1124 (k1126).lt
     have lt_R_B1122 := hN_gtl hN1124 (kR1086).lt
     have hb1127 := low0 hb1089 hN1124.grw
     refine wpo_move (v := .pointer (some ⟨R, 0, none⟩)) e160 rfl ?_
     have k1128 := (kR1086.grown0 hN1124.grw)
     refine wpo_call (vs := [.pointer (some ⟨R, 0, none⟩), .int .i64 2]) gf_60 (args_cons rfl (args_cons rfl args_nil)) rfl (pick_c (p1 + 1 + 1) 2 (by omega) _ R bs _ _ _ k1128 (by omega) (SlLt.low1 hs hb1127 hlo) (by first | exact hb | exact fun b h => hb b (List.mem_of_mem_take h)) (by first | omega | (rw [List.length_take]; omega))) ?_
     rintro _ w1134 ⟨k1129, rfl, hk1130, hk1131, kR1132, hg1133⟩
     have hb1135 := grown_trans hb1127 hg1133
     refine wpo_indexAddr (o' := (k1129).toNat * 1) es_43 rfl rfl (by omega) (by omega) (by omega) rfl ?_
     have k1136 := (hN1124.blk.grown hg1133 (some_ne (by omega)))
     obtain ⟨x1137, hx1138⟩ := get_lt (l := ([(-1), 4] : List Int)) (i := (k1129).toNat) (show (k1129).toNat < 2 by omega)
     have hm1139 := List.mem_of_getElem? hx1138
     simp only [List.mem_cons, List.not_mem_nil, or_false] at hm1139
     refine wpo_load1 (v := .int .i64 x1137) ot_3 rfl ((rows_range wide_int k1136 hx1138) 0 _ rfl) rfl ?_
     refine wpo_fieldAddr (o' := 2) fo_76_2 e163 rfl rfl ?_
     have k1140 := ((k1126.grown0 hN1124.grw).grown hg1133 (some_ne (by omega)))
     refine wpo_store1 (v := .int .i64 x1137) (cs' := #[.int .i64 kk, .int .i64 k114, .int .i64 x1137, .int .i64 k130, .int .i64 k137]) ot_3 rfl rfl rfl k1140 (Nat.le_of_ble_eq_true rfl) rfl ?_
     intro w1141 hS1142
     have hb1143 := low1 hb1135 hS1142.grw (by omega)
     refine wpo_nil ?_
     refine blk_n ?_
     refine thn_n ?_
     refine wpf_seq_region ?_
     refine wpo_loadn (vs := [.int .i64 kk, .int .i64 k114, .int .i64 x1137, .int .i64 k130, .int .i64 k137]) rt_76 e163 rfl (hS1142.blk.rangeL 0 5 rfl) rfl ?_
     have k1144 := (((k1125.grown0 hN1124.grw).grown hg1133 (some_ne (by omega))).grown hS1142.grw (some_ne (by omega)))
     refine wpo_storen (vs := [.int .i64 kk, .int .i64 k114, .int .i64 x1137, .int .i64 k130, .int .i64 k137]) (cs' := #[.int .i64 kk, .int .i64 k114, .int .i64 x1137, .int .i64 k130, .int .i64 k137]) rt_76 e162 rfl rfl (by simp [Value.oneCell']) k1144 (Nat.le_of_ble_eq_true rfl) rfl ?_
     intro w1145 hS1146
     have hb1147 := low1 hb1143 hS1146.grw (by omega)
     refine wpo_nil ?_
     refine wpf_ret ?_
     have k1148 := ((kR1132.grown hS1142.grw (some_ne (by omega))).grown hS1146.grw (some_ne (by omega)))
     refine ⟨.agg #[.int .i64 kk, .int .i64 k114, .int .i64 x1137, .int .i64 k130, .int .i64 k137], resC rfl (resCell_mk (vs := [.int .i64 kk, .int .i64 k114, .int .i64 x1137, .int .i64 k130, .int .i64 k137]) rt_76 e162 rfl (hS1146.blk.rangeL 0 5 rfl)), ⟨kk, k114, x1137, k130, k137⟩, (p1 + 1 + 1 + 1), rfl, ⟨⟨show (0 : Int) ≤ kk by omega, show kk ≤ (10 : Int) by omega⟩, ⟨show (1 : Int) ≤ k114 by omega, show k114 ≤ (ms.length : Int) by omega⟩, ⟨show (-1 : Int) ≤ x1137 by omega, show x1137 ≤ (4 : Int) by omega⟩, ⟨show (0 : Int) ≤ k130 by omega, show k130 ≤ (3 : Int) by omega⟩, show (-1 : Int) ≤ k137 by omega, show k137 ≤ (100 : Int) by omega⟩, by omega, by omega, k1148, hb1147⟩
    ·
     have h1149 := of_decide_eq_false h1120
     refine wpf_seq_region ?_
     refine wpo_eql (q := decide (k1083 = 2)) rfl rfl rfl rfl ?_
     refine wpo_assign (v := .bool (decide (k1083 = 2))) rfl rfl ?_
     refine wpo_nil ?_
     refine wpf_cond rfl (fun h1150 => ?_) (fun h1150 => ?_)
     ·
      have h1151 := of_decide_eq_true h1150
      refine wpf_region ?_
      refine wpo_buildSlice (ps := [(0, .int .i64 (-1)), (1, .int .i64 100)]) (e := 3) (cs := (([(-1), 100] : List Int).flatMap icell).toArray) (parts_cons rfl (parts_cons rfl parts_nil)) (fun _ => by kernel_rfl) rfl ?_
      intro B1152 w1153 hN1154
      have hlB1152 := hN_ge hN1154 hb1089
      have hhiB1152 : hi ≤ B1152 := Nat.le_trans (Nat.le_trans (Nat.le_trans hhs hg196.size) hg1087.size) (Nat.le_of_eq hN1154.eq.symm)
      have k1155 := ((k164.grown hg196 (some_ne (by omega))).grown hg1087 (some_ne (by omega)))
      have lt_B101_B1152 := hN_gtl hN1154 (k1155).lt
      have k1156 := ((k165.grown hg196 (some_ne (by omega))).grown hg1087 (some_ne (by omega)))
      have lt_B144_B1152 := hN_gtl hN1154 (k1156).lt
      have lt_R_B1152 := hN_gtl hN1154 (kR1086).lt
      have hb1157 := low0 hb1089 hN1154.grw
      refine wpo_move (v := .pointer (some ⟨R, 0, none⟩)) e160 rfl ?_
      have k1158 := (kR1086.grown0 hN1154.grw)
      refine wpo_call (vs := [.pointer (some ⟨R, 0, none⟩), .int .i64 2]) gf_60 (args_cons rfl (args_cons rfl args_nil)) rfl (pick_c (p1 + 1 + 1) 2 (by omega) _ R bs _ _ _ k1158 (by omega) (SlLt.low1 hs hb1157 hlo) (by first | exact hb | exact fun b h => hb b (List.mem_of_mem_take h)) (by first | omega | (rw [List.length_take]; omega))) ?_
      rintro _ w1164 ⟨k1159, rfl, hk1160, hk1161, kR1162, hg1163⟩
      have hb1165 := grown_trans hb1157 hg1163
      refine wpo_indexAddr (o' := (k1159).toNat * 1) es_43 rfl rfl (by omega) (by omega) (by omega) rfl ?_
      have k1166 := (hN1154.blk.grown hg1163 (some_ne (by omega)))
      obtain ⟨x1167, hx1168⟩ := get_lt (l := ([(-1), 100] : List Int)) (i := (k1159).toNat) (show (k1159).toNat < 2 by omega)
      have hm1169 := List.mem_of_getElem? hx1168
      simp only [List.mem_cons, List.not_mem_nil, or_false] at hm1169
      refine wpo_load1 (v := .int .i64 x1167) ot_3 rfl ((rows_range wide_int k1166 hx1168) 0 _ rfl) rfl ?_
      refine wpo_fieldAddr (o' := 4) fo_76_4 e163 rfl rfl ?_
      have k1170 := ((k1156.grown0 hN1154.grw).grown hg1163 (some_ne (by omega)))
      refine wpo_store1 (v := .int .i64 x1167) (cs' := #[.int .i64 kk, .int .i64 k114, .int .i64 aa, .int .i64 k130, .int .i64 x1167]) ot_3 rfl rfl rfl k1170 (Nat.le_of_ble_eq_true rfl) rfl ?_
      intro w1171 hS1172
      have hb1173 := low1 hb1165 hS1172.grw (by omega)
      refine wpo_nil ?_
      refine blk_n ?_
      refine thn_n ?_
      refine wpf_seq_region ?_
      refine wpo_loadn (vs := [.int .i64 kk, .int .i64 k114, .int .i64 aa, .int .i64 k130, .int .i64 x1167]) rt_76 e163 rfl (hS1172.blk.rangeL 0 5 rfl) rfl ?_
      have k1174 := (((k1155.grown0 hN1154.grw).grown hg1163 (some_ne (by omega))).grown hS1172.grw (some_ne (by omega)))
      refine wpo_storen (vs := [.int .i64 kk, .int .i64 k114, .int .i64 aa, .int .i64 k130, .int .i64 x1167]) (cs' := #[.int .i64 kk, .int .i64 k114, .int .i64 aa, .int .i64 k130, .int .i64 x1167]) rt_76 e162 rfl rfl (by simp [Value.oneCell']) k1174 (Nat.le_of_ble_eq_true rfl) rfl ?_
      intro w1175 hS1176
      have hb1177 := low1 hb1173 hS1176.grw (by omega)
      refine wpo_nil ?_
      refine wpf_ret ?_
      have k1178 := ((kR1162.grown hS1172.grw (some_ne (by omega))).grown hS1176.grw (some_ne (by omega)))
      refine ⟨.agg #[.int .i64 kk, .int .i64 k114, .int .i64 aa, .int .i64 k130, .int .i64 x1167], resC rfl (resCell_mk (vs := [.int .i64 kk, .int .i64 k114, .int .i64 aa, .int .i64 k130, .int .i64 x1167]) rt_76 e162 rfl (hS1176.blk.rangeL 0 5 rfl)), ⟨kk, k114, aa, k130, x1167⟩, (p1 + 1 + 1 + 1), rfl, ⟨⟨show (0 : Int) ≤ kk by omega, show kk ≤ (10 : Int) by omega⟩, ⟨show (1 : Int) ≤ k114 by omega, show k114 ≤ (ms.length : Int) by omega⟩, ⟨show (-1 : Int) ≤ aa by omega, show aa ≤ (4 : Int) by omega⟩, ⟨show (0 : Int) ≤ k130 by omega, show k130 ≤ (3 : Int) by omega⟩, show (-1 : Int) ≤ x1167 by omega, show x1167 ≤ (100 : Int) by omega⟩, by omega, by omega, k1178, hb1177⟩
     ·
      have h1179 := of_decide_eq_false h1150
      refine wpf_skip ?_
      refine blk_n ?_
      refine thn_n ?_
      refine wpf_seq_region ?_
      have k1180 := ((k165.grown hg196 (some_ne (by omega))).grown hg1087 (some_ne (by omega)))
      refine wpo_loadn (vs := [.int .i64 kk, .int .i64 k114, .int .i64 aa, .int .i64 k130, .int .i64 k137]) rt_76 e163 rfl (k1180.rangeL 0 5 rfl) rfl ?_
      have k1181 := ((k164.grown hg196 (some_ne (by omega))).grown hg1087 (some_ne (by omega)))
      refine wpo_storen (vs := [.int .i64 kk, .int .i64 k114, .int .i64 aa, .int .i64 k130, .int .i64 k137]) (cs' := #[.int .i64 kk, .int .i64 k114, .int .i64 aa, .int .i64 k130, .int .i64 k137]) rt_76 e162 rfl rfl (by simp [Value.oneCell']) k1181 (Nat.le_of_ble_eq_true rfl) rfl ?_
      intro w1182 hS1183
      have hb1184 := low1 hb1089 hS1183.grw (by omega)
      refine wpo_nil ?_
      refine wpf_ret ?_
      have k1185 := (kR1086.grown hS1183.grw (some_ne (by omega)))
      refine ⟨.agg #[.int .i64 kk, .int .i64 k114, .int .i64 aa, .int .i64 k130, .int .i64 k137], resC rfl (resCell_mk (vs := [.int .i64 kk, .int .i64 k114, .int .i64 aa, .int .i64 k130, .int .i64 k137]) rt_76 e162 rfl (hS1183.blk.rangeL 0 5 rfl)), ⟨kk, k114, aa, k130, k137⟩, (p1 + 1 + 1), rfl, ⟨⟨show (0 : Int) ≤ kk by omega, show kk ≤ (10 : Int) by omega⟩, ⟨show (1 : Int) ≤ k114 by omega, show k114 ≤ (ms.length : Int) by omega⟩, ⟨show (-1 : Int) ≤ aa by omega, show aa ≤ (4 : Int) by omega⟩, ⟨show (0 : Int) ≤ k130 by omega, show k130 ≤ (3 : Int) by omega⟩, show (-1 : Int) ≤ k137 by omega, show k137 ≤ (100 : Int) by omega⟩, by omega, by omega, k1185, hb1184⟩
 ·
  have h1186 := of_decide_eq_false h190
  iterate 3 refine wpo_pass rfl rfl rfl h190 rfl ?_
  refine wpo_pickf (v := .bool false) rfl h190 rfl rfl ?_
  refine wpo_move (v := .bool false) rfl rfl ?_
  iterate 4 refine wpo_pass rfl rfl rfl rfl rfl ?_
  refine wpo_pickf (v := .bool false) rfl rfl rfl rfl ?_
  refine wpo_move (v := .bool false) rfl rfl ?_
  iterate 9 refine wpo_pass rfl rfl rfl rfl rfl ?_
  refine wpo_pickf (v := .bool false) rfl rfl rfl rfl ?_
  refine wpo_nil ?_
  refine wpf_condf rfl rfl ?_
  refine wpf_exit ?_
  refine thn_e ?_
  refine thn_e ?_
  refine blk_e ?_
  refine thn_n ?_
  refine wpf_seq ?_
  refine wpf_seq_region ?_
  refine wpo_move (v := .pointer (some ⟨R, 0, none⟩)) e160 rfl ?_
  refine wpo_call (vs := [.pointer (some ⟨R, 0, none⟩), .int .i64 50]) gf_60 (args_cons rfl (args_cons rfl args_nil)) rfl (pick_c p1 50 (by omega) _ R bs _ _ _ k166 (by omega) (SlLt.low1 hs hb157 hlo) (by first | exact hb | exact fun b h => hb b (List.mem_of_mem_take h)) (by first | omega | (rw [List.length_take]; omega))) ?_
  rintro _ w1192 ⟨k1187, rfl, hk1188, hk1189, kR1190, hg1191⟩
  have hb1193 := grown_trans hb157 hg1191
  refine wpo_nil ?_
  refine wpf_block ?_
  refine wpf_seq_region ?_
  refine wpo_eql (q := decide (k1187 = 0)) rfl rfl rfl rfl ?_
  refine wpo_assign (v := .bool (decide (k1187 = 0))) rfl rfl ?_
  refine wpo_nil ?_
  refine wpf_cond rfl (fun h1194 => ?_) (fun h1194 => ?_)
  ·
   have h1195 := of_decide_eq_true h1194
   refine wpf_region ?_
   refine wpo_buildSlice (ps := [(0, .int .i64 0), (1, .int .i64 10)]) (e := 3) (cs := (([0, 10] : List Int).flatMap icell).toArray) (parts_cons rfl (parts_cons rfl parts_nil)) (fun _ => by kernel_rfl) rfl ?_
   intro B1196 w1197 hN1198
   have hlB1196 := hN_ge hN1198 hb1193
   have hhiB1196 : hi ≤ B1196 := Nat.le_trans (Nat.le_trans hhs hg1191.size) (Nat.le_of_eq hN1198.eq.symm)
   have k1199 := (k164.grown hg1191 (some_ne (by omega)))
   have lt_B101_B1196 := hN_gtl hN1198 (k1199).lt
   have k1200 := (k165.grown hg1191 (some_ne (by omega)))
   have lt_B144_B1196 := hN_gtl hN1198 (k1200).lt
   have lt_R_B1196 := hN_gtl hN1198 (kR1190).lt
   have hb1201 := low0 hb1193 hN1198.grw
   refine wpo_move (v := .pointer (some ⟨R, 0, none⟩)) e160 rfl ?_
   have k1202 := (kR1190.grown0 hN1198.grw)
   refine wpo_call (vs := [.pointer (some ⟨R, 0, none⟩), .int .i64 2]) gf_60 (args_cons rfl (args_cons rfl args_nil)) rfl (pick_c (p1 + 1) 2 (by omega) _ R bs _ _ _ k1202 (by omega) (SlLt.low1 hs hb1201 hlo) (by first | exact hb | exact fun b h => hb b (List.mem_of_mem_take h)) (by first | omega | (rw [List.length_take]; omega))) ?_
   rintro _ w1208 ⟨k1203, rfl, hk1204, hk1205, kR1206, hg1207⟩
   have hb1209 := grown_trans hb1201 hg1207
   refine wpo_indexAddr (o' := (k1203).toNat * 1) es_43 rfl rfl (by omega) (by omega) (by omega) rfl ?_
   have k1210 := (hN1198.blk.grown hg1207 (some_ne (by omega)))
   obtain ⟨x1211, hx1212⟩ := get_lt (l := ([0, 10] : List Int)) (i := (k1203).toNat) (show (k1203).toNat < 2 by omega)
   have hm1213 := List.mem_of_getElem? hx1212
   simp only [List.mem_cons, List.not_mem_nil, or_false] at hm1213
   refine wpo_load1 (v := .int .i64 x1211) ot_3 rfl ((rows_range wide_int k1210 hx1212) 0 _ rfl) rfl ?_
   refine wpo_fieldAddr (o' := 0) fo_76_0 e163 rfl rfl ?_
   have k1214 := ((k1200.grown0 hN1198.grw).grown hg1207 (some_ne (by omega)))
   refine wpo_store1 (v := .int .i64 x1211) (cs' := #[.int .i64 x1211, .int .i64 k114, .int .i64 aa, .int .i64 k130, .int .i64 k137]) ot_3 rfl rfl rfl k1214 (Nat.le_of_ble_eq_true rfl) rfl ?_
   intro w1215 hS1216
   have hb1217 := low1 hb1209 hS1216.grw (by omega)
   refine wpo_nil ?_
   refine blk_n ?_
   refine thn_n ?_
   refine wpf_seq_region ?_
   refine wpo_loadn (vs := [.int .i64 x1211, .int .i64 k114, .int .i64 aa, .int .i64 k130, .int .i64 k137]) rt_76 e163 rfl (hS1216.blk.rangeL 0 5 rfl) rfl ?_
   have k1218 := (((k1199.grown0 hN1198.grw).grown hg1207 (some_ne (by omega))).grown hS1216.grw (some_ne (by omega)))
   refine wpo_storen (vs := [.int .i64 x1211, .int .i64 k114, .int .i64 aa, .int .i64 k130, .int .i64 k137]) (cs' := #[.int .i64 x1211, .int .i64 k114, .int .i64 aa, .int .i64 k130, .int .i64 k137]) rt_76 e162 rfl rfl (by simp [Value.oneCell']) k1218 (Nat.le_of_ble_eq_true rfl) rfl ?_
   intro w1219 hS1220
   have hb1221 := low1 hb1217 hS1220.grw (by omega)
   refine wpo_nil ?_
   refine wpf_ret ?_
   have k1222 := ((kR1206.grown hS1216.grw (some_ne (by omega))).grown hS1220.grw (some_ne (by omega)))
   refine ⟨.agg #[.int .i64 x1211, .int .i64 k114, .int .i64 aa, .int .i64 k130, .int .i64 k137], resC rfl (resCell_mk (vs := [.int .i64 x1211, .int .i64 k114, .int .i64 aa, .int .i64 k130, .int .i64 k137]) rt_76 e162 rfl (hS1220.blk.rangeL 0 5 rfl)), ⟨x1211, k114, aa, k130, k137⟩, (p1 + 1 + 1), rfl, ⟨⟨show (0 : Int) ≤ x1211 by omega, show x1211 ≤ (10 : Int) by omega⟩, ⟨show (1 : Int) ≤ k114 by omega, show k114 ≤ (ms.length : Int) by omega⟩, ⟨show (-1 : Int) ≤ aa by omega, show aa ≤ (4 : Int) by omega⟩, ⟨show (0 : Int) ≤ k130 by omega, show k130 ≤ (3 : Int) by omega⟩, show (-1 : Int) ≤ k137 by omega, show k137 ≤ (100 : Int) by omega⟩, by omega, by omega, k1222, hb1221⟩
  ·
   have h1223 := of_decide_eq_false h1194
   refine wpf_seq_region ?_
   refine wpo_eql (q := decide (k1187 = 1)) rfl rfl rfl rfl ?_
   refine wpo_assign (v := .bool (decide (k1187 = 1))) rfl rfl ?_
   refine wpo_nil ?_
   refine wpf_cond rfl (fun h1224 => ?_) (fun h1224 => ?_)
   ·
    have h1225 := of_decide_eq_true h1224
    refine wpf_region ?_
    refine wpo_buildSlice (ps := [(0, .int .i64 (-1)), (1, .int .i64 4)]) (e := 3) (cs := (([(-1), 4] : List Int).flatMap icell).toArray) (parts_cons rfl (parts_cons rfl parts_nil)) (fun _ => by kernel_rfl) rfl ?_
    intro B1226 w1227 hN1228
    have hlB1226 := hN_ge hN1228 hb1193
    have hhiB1226 : hi ≤ B1226 := Nat.le_trans (Nat.le_trans hhs hg1191.size) (Nat.le_of_eq hN1228.eq.symm)
    have k1229 := (k164.grown hg1191 (some_ne (by omega)))
    have lt_B101_B1226 := hN_gtl hN1228 (k1229).lt
    have k1230 := (k165.grown hg1191 (some_ne (by omega)))
    have lt_B144_B1226 := hN_gtl hN1228 (k1230).lt
    have lt_R_B1226 := hN_gtl hN1228 (kR1190).lt
    have hb1231 := low0 hb1193 hN1228.grw
    refine wpo_move (v := .pointer (some ⟨R, 0, none⟩)) e160 rfl ?_
    have k1232 := (kR1190.grown0 hN1228.grw)
    refine wpo_call (vs := [.pointer (some ⟨R, 0, none⟩), .int .i64 2]) gf_60 (args_cons rfl (args_cons rfl args_nil)) rfl (pick_c (p1 + 1) 2 (by omega) _ R bs _ _ _ k1232 (by omega) (SlLt.low1 hs hb1231 hlo) (by first | exact hb | exact fun b h => hb b (List.mem_of_mem_take h)) (by first | omega | (rw [List.length_take]; omega))) ?_
    rintro _ w1238 ⟨k1233, rfl, hk1234, hk1235, kR1236, hg1237⟩
    have hb1239 := grown_trans hb1231 hg1237
    refine wpo_indexAddr (o' := (k1233).toNat * 1) es_43 rfl rfl (by omega) (by omega) (by omega) rfl ?_
    have k1240 := (hN1228.blk.grown hg1237 (some_ne (by omega)))
    obtain ⟨x1241, hx1242⟩ := get_lt (l := ([(-1), 4] : List Int)) (i := (k1233).toNat) (show (k1233).toNat < 2 by omega)
    have hm1243 := List.mem_of_getElem? hx1242
    simp only [List.mem_cons, List.not_mem_nil, or_false] at hm1243
    refine wpo_load1 (v := .int .i64 x1241) ot_3 rfl ((rows_range wide_int k1240 hx1242) 0 _ rfl) rfl ?_
    refine wpo_fieldAddr (o' := 2) fo_76_2 e163 rfl rfl ?_
    have k1244 := ((k1230.grown0 hN1228.grw).grown hg1237 (some_ne (by omega)))
    refine wpo_store1 (v := .int .i64 x1241) (cs' := #[.int .i64 kk, .int .i64 k114, .int .i64 x1241, .int .i64 k130, .int .i64 k137]) ot_3 rfl rfl rfl k1244 (Nat.le_of_ble_eq_true rfl) rfl ?_
    intro w1245 hS1246
    have hb1247 := low1 hb1239 hS1246.grw (by omega)
    refine wpo_nil ?_
    refine blk_n ?_
    refine thn_n ?_
    refine wpf_seq_region ?_
    refine wpo_loadn (vs := [.int .i64 kk, .int .i64 k114, .int .i64 x1241, .int .i64 k130, .int .i64 k137]) rt_76 e163 rfl (hS1246.blk.rangeL 0 5 rfl) rfl ?_
    have k1248 := (((k1229.grown0 hN1228.grw).grown hg1237 (some_ne (by omega))).grown hS1246.grw (some_ne (by omega)))
    refine wpo_storen (vs := [.int .i64 kk, .int .i64 k114, .int .i64 x1241, .int .i64 k130, .int .i64 k137]) (cs' := #[.int .i64 kk, .int .i64 k114, .int .i64 x1241, .int .i64 k130, .int .i64 k137]) rt_76 e162 rfl rfl (by simp [Value.oneCell']) k1248 (Nat.le_of_ble_eq_true rfl) rfl ?_
    intro w1249 hS1250
    have hb1251 := low1 hb1247 hS1250.grw (by omega)
    refine wpo_nil ?_
    refine wpf_ret ?_
    have k1252 := ((kR1236.grown hS1246.grw (some_ne (by omega))).grown hS1250.grw (some_ne (by omega)))
    refine ⟨.agg #[.int .i64 kk, .int .i64 k114, .int .i64 x1241, .int .i64 k130, .int .i64 k137], resC rfl (resCell_mk (vs := [.int .i64 kk, .int .i64 k114, .int .i64 x1241, .int .i64 k130, .int .i64 k137]) rt_76 e162 rfl (hS1250.blk.rangeL 0 5 rfl)), ⟨kk, k114, x1241, k130, k137⟩, (p1 + 1 + 1), rfl, ⟨⟨show (0 : Int) ≤ kk by omega, show kk ≤ (10 : Int) by omega⟩, ⟨show (1 : Int) ≤ k114 by omega, show k114 ≤ (ms.length : Int) by omega⟩, ⟨show (-1 : Int) ≤ x1241 by omega, show x1241 ≤ (4 : Int) by omega⟩, ⟨show (0 : Int) ≤ k130 by omega, show k130 ≤ (3 : Int) by omega⟩, show (-1 : Int) ≤ k137 by omega, show k137 ≤ (100 : Int) by omega⟩, by omega, by omega, k1252, hb1251⟩
   ·
    have h1253 := of_decide_eq_false h1224
    refine wpf_seq_region ?_
    refine wpo_eql (q := decide (k1187 = 2)) rfl rfl rfl rfl ?_
    refine wpo_assign (v := .bool (decide (k1187 = 2))) rfl rfl ?_
    refine wpo_nil ?_
    refine wpf_cond rfl (fun h1254 => ?_) (fun h1254 => ?_)
    ·
     have h1255 := of_decide_eq_true h1254
     refine wpf_region ?_
     refine wpo_buildSlice (ps := [(0, .int .i64 (-1)), (1, .int .i64 100)]) (e := 3) (cs := (([(-1), 100] : List Int).flatMap icell).toArray) (parts_cons rfl (parts_cons rfl parts_nil)) (fun _ => by kernel_rfl) rfl ?_
     intro B1256 w1257 hN1258
     have hlB1256 := hN_ge hN1258 hb1193
     have hhiB1256 : hi ≤ B1256 := Nat.le_trans (Nat.le_trans hhs hg1191.size) (Nat.le_of_eq hN1258.eq.symm)
     have k1259 := (k164.grown hg1191 (some_ne (by omega)))
     have lt_B101_B1256 := hN_gtl hN1258 (k1259).lt
     have k1260 := (k165.grown hg1191 (some_ne (by omega)))
     have lt_B144_B1256 := hN_gtl hN1258 (k1260).lt
     have lt_R_B1256 := hN_gtl hN1258 (kR1190).lt
     have hb1261 := low0 hb1193 hN1258.grw
     refine wpo_move (v := .pointer (some ⟨R, 0, none⟩)) e160 rfl ?_
     have k1262 := (kR1190.grown0 hN1258.grw)
     refine wpo_call (vs := [.pointer (some ⟨R, 0, none⟩), .int .i64 2]) gf_60 (args_cons rfl (args_cons rfl args_nil)) rfl (pick_c (p1 + 1) 2 (by omega) _ R bs _ _ _ k1262 (by omega) (SlLt.low1 hs hb1261 hlo) (by first | exact hb | exact fun b h => hb b (List.mem_of_mem_take h)) (by first | omega | (rw [List.length_take]; omega))) ?_
     rintro _ w1268 ⟨k1263, rfl, hk1264, hk1265, kR1266, hg1267⟩
     have hb1269 := grown_trans hb1261 hg1267
     refine wpo_indexAddr (o' := (k1263).toNat * 1) es_43 rfl rfl (by omega) (by omega) (by omega) rfl ?_
     have k1270 := (hN1258.blk.grown hg1267 (some_ne (by omega)))
     obtain ⟨x1271, hx1272⟩ := get_lt (l := ([(-1), 100] : List Int)) (i := (k1263).toNat) (show (k1263).toNat < 2 by omega)
     have hm1273 := List.mem_of_getElem? hx1272
     simp only [List.mem_cons, List.not_mem_nil, or_false] at hm1273
     refine wpo_load1 (v := .int .i64 x1271) ot_3 rfl ((rows_range wide_int k1270 hx1272) 0 _ rfl) rfl ?_
     refine wpo_fieldAddr (o' := 4) fo_76_4 e163 rfl rfl ?_
     have k1274 := ((k1260.grown0 hN1258.grw).grown hg1267 (some_ne (by omega)))
     refine wpo_store1 (v := .int .i64 x1271) (cs' := #[.int .i64 kk, .int .i64 k114, .int .i64 aa, .int .i64 k130, .int .i64 x1271]) ot_3 rfl rfl rfl k1274 (Nat.le_of_ble_eq_true rfl) rfl ?_
     intro w1275 hS1276
     have hb1277 := low1 hb1269 hS1276.grw (by omega)
     refine wpo_nil ?_
     refine blk_n ?_
     refine thn_n ?_
     refine wpf_seq_region ?_
     refine wpo_loadn (vs := [.int .i64 kk, .int .i64 k114, .int .i64 aa, .int .i64 k130, .int .i64 x1271]) rt_76 e163 rfl (hS1276.blk.rangeL 0 5 rfl) rfl ?_
     have k1278 := (((k1259.grown0 hN1258.grw).grown hg1267 (some_ne (by omega))).grown hS1276.grw (some_ne (by omega)))
     refine wpo_storen (vs := [.int .i64 kk, .int .i64 k114, .int .i64 aa, .int .i64 k130, .int .i64 x1271]) (cs' := #[.int .i64 kk, .int .i64 k114, .int .i64 aa, .int .i64 k130, .int .i64 x1271]) rt_76 e162 rfl rfl (by simp [Value.oneCell']) k1278 (Nat.le_of_ble_eq_true rfl) rfl ?_
     intro w1279 hS1280
     have hb1281 := low1 hb1277 hS1280.grw (by omega)
     refine wpo_nil ?_
     refine wpf_ret ?_
     have k1282 := ((kR1266.grown hS1276.grw (some_ne (by omega))).grown hS1280.grw (some_ne (by omega)))
     refine ⟨.agg #[.int .i64 kk, .int .i64 k114, .int .i64 aa, .int .i64 k130, .int .i64 x1271], resC rfl (resCell_mk (vs := [.int .i64 kk, .int .i64 k114, .int .i64 aa, .int .i64 k130, .int .i64 x1271]) rt_76 e162 rfl (hS1280.blk.rangeL 0 5 rfl)), ⟨kk, k114, aa, k130, x1271⟩, (p1 + 1 + 1), rfl, ⟨⟨show (0 : Int) ≤ kk by omega, show kk ≤ (10 : Int) by omega⟩, ⟨show (1 : Int) ≤ k114 by omega, show k114 ≤ (ms.length : Int) by omega⟩, ⟨show (-1 : Int) ≤ aa by omega, show aa ≤ (4 : Int) by omega⟩, ⟨show (0 : Int) ≤ k130 by omega, show k130 ≤ (3 : Int) by omega⟩, show (-1 : Int) ≤ x1271 by omega, show x1271 ≤ (100 : Int) by omega⟩, by omega, by omega, k1282, hb1281⟩
    ·
     have h1283 := of_decide_eq_false h1254
     refine wpf_skip ?_
     refine blk_n ?_
     refine thn_n ?_
     refine wpf_seq_region ?_
     have k1284 := (k165.grown hg1191 (some_ne (by omega)))
     refine wpo_loadn (vs := [.int .i64 kk, .int .i64 k114, .int .i64 aa, .int .i64 k130, .int .i64 k137]) rt_76 e163 rfl (k1284.rangeL 0 5 rfl) rfl ?_
     have k1285 := (k164.grown hg1191 (some_ne (by omega)))
     refine wpo_storen (vs := [.int .i64 kk, .int .i64 k114, .int .i64 aa, .int .i64 k130, .int .i64 k137]) (cs' := #[.int .i64 kk, .int .i64 k114, .int .i64 aa, .int .i64 k130, .int .i64 k137]) rt_76 e162 rfl rfl (by simp [Value.oneCell']) k1285 (Nat.le_of_ble_eq_true rfl) rfl ?_
     intro w1286 hS1287
     have hb1288 := low1 hb1193 hS1287.grw (by omega)
     refine wpo_nil ?_
     refine wpf_ret ?_
     have k1289 := (kR1190.grown hS1287.grw (some_ne (by omega)))
     refine ⟨.agg #[.int .i64 kk, .int .i64 k114, .int .i64 aa, .int .i64 k130, .int .i64 k137], resC rfl (resCell_mk (vs := [.int .i64 kk, .int .i64 k114, .int .i64 aa, .int .i64 k130, .int .i64 k137]) rt_76 e162 rfl (hS1287.blk.rangeL 0 5 rfl)), ⟨kk, k114, aa, k130, k137⟩, (p1 + 1), rfl, ⟨⟨show (0 : Int) ≤ kk by omega, show kk ≤ (10 : Int) by omega⟩, ⟨show (1 : Int) ≤ k114 by omega, show k114 ≤ (ms.length : Int) by omega⟩, ⟨show (-1 : Int) ≤ aa by omega, show aa ≤ (4 : Int) by omega⟩, ⟨show (0 : Int) ≤ k130 by omega, show k130 ≤ (3 : Int) by omega⟩, show (-1 : Int) ≤ k137 by omega, show k137 ≤ (100 : Int) by omega⟩, by omega, by omega, k1289, hb1288⟩
theorem es_145 : elemSz Try.prog 145 = some 1 := by kernel_rfl
theorem gf_120 : goFn Try.prog 120 = true := by kernel_rfl
theorem gf_122 : goFn Try.prog 122 = true := by kernel_rfl
theorem gf_123 : goFn Try.prog 123 = true := by kernel_rfl
theorem gf_124 : goFn Try.prog 124 = true := by kernel_rfl
theorem l11Needs_c (q : Int) (w : World) : CallsR Try.prog 123 #[.int .i64 q] w (fun v w' => ∃ B : Nat, v = .slice (some ⟨B, 0, none⟩) 4 4 ∧ w.heap.size ≤ B ∧ Blk w' B 4 #[.bool (need0 q), .bool (need1 q), .bool (need0 q), .bool (need1 q)] ∧ w.grownBy w' none) := by
 refine calls_of_wpf (n := 12) Try.func123 rfl Try.ntmps123 rfl ?_
 have hb0 := World.grownBy.refl w none
 refine wpf_seq_region ?_
 refine wpo_assign (v := .slice none 0 0) rfl rfl ?_
 refine wpo_nil ?_
 refine wpf_seq ?_
 refine wpf_seq_region ?_
 refine wpo_move (v := .int .i64 q) rfl rfl ?_
 refine wpo_nil ?_
 refine wpf_block ?_
 refine wpf_seq ?_
 refine wpf_seq_region ?_
 refine wpo_eql (q := decide (q = 1)) rfl rfl rfl rfl ?_
 refine wpo_assign (v := .bool (decide (q = 1))) rfl rfl ?_
 refine wpo_nil ?_
 refine wpf_cond rfl (fun h101 => ?_) (fun h101 => ?_)
 ·
  have h102 := of_decide_eq_true h101
  refine wpf_skip ?_
  refine thn_n ?_
  refine wpf_condt rfl h101 ?_
  refine wpf_seq_region ?_
  refine wpo_buildSlice (ps := [(0, .bool true), (1, .bool false), (2, .bool true), (3, .bool false)]) (e := 4) (cs := #[.bool true, .bool false, .bool true, .bool false]) (parts_cons rfl (parts_cons rfl (parts_cons rfl (parts_cons rfl parts_nil)))) (fun _ => by kernel_rfl) rfl ?_
  intro B103 w104 hN105
  have hlB103 := hN_ge hN105 hb0
  have hb106 := low0 hb0 hN105.grw
  refine wpo_assign (v := .slice (some ⟨B103, 0, none⟩) 4 4) rfl rfl ?_
  refine wpo_nil ?_
  refine wpf_ret ?_
  refine blk_r ?_
  refine thn_r ?_
  have e0 : need0 q = true := by unfold need0; simp [h102]
  have e1 : need1 q = false := by unfold need1; simp [h102]
  refine ⟨.slice (some ⟨B103, 0, none⟩) 4 4, res1 rfl rfl, B103, rfl, hlB103, ?_, hb106⟩
  rw [e0, e1]
  exact hN105.blk
 ·
  have h107 := of_decide_eq_false h101
  refine wpf_region ?_
  refine wpo_eql (q := decide (q = 4)) rfl rfl rfl rfl ?_
  refine wpo_assign (v := .bool (decide (q = 4))) rfl rfl ?_
  refine wpo_nil ?_
  refine thn_n ?_
  refine wpf_cond rfl (fun h108 => ?_) (fun h108 => ?_)
  ·
   have h109 := of_decide_eq_true h108
   refine wpf_seq_region ?_
   refine wpo_buildSlice (ps := [(0, .bool true), (1, .bool false), (2, .bool true), (3, .bool false)]) (e := 4) (cs := #[.bool true, .bool false, .bool true, .bool false]) (parts_cons rfl (parts_cons rfl (parts_cons rfl (parts_cons rfl parts_nil)))) (fun _ => by kernel_rfl) rfl ?_
   intro B110 w111 hN112
   have hlB110 := hN_ge hN112 hb0
   have hb113 := low0 hb0 hN112.grw
   refine wpo_assign (v := .slice (some ⟨B110, 0, none⟩) 4 4) rfl rfl ?_
   refine wpo_nil ?_
   refine wpf_ret ?_
   refine blk_r ?_
   refine thn_r ?_
   have e0 : need0 q = true := by unfold need0; simp [h107, h109]
   have e1 : need1 q = false := by unfold need1; simp [h107, h109]
   refine ⟨.slice (some ⟨B110, 0, none⟩) 4 4, res1 rfl rfl, B110, rfl, hlB110, ?_, hb113⟩
   rw [e0, e1]
   exact hN112.blk
  ·
   have h114 := of_decide_eq_false h108
   refine wpf_seq_region ?_
   refine wpo_eql (q := decide (q = 7)) rfl rfl rfl rfl ?_
   refine wpo_assign (v := .bool (decide (q = 7))) rfl rfl ?_
   refine wpo_nil ?_
   refine wpf_cond rfl (fun h115 => ?_) (fun h115 => ?_)
   ·
    have h116 := of_decide_eq_true h115
    refine wpf_seq_region ?_
    refine wpo_buildSlice (ps := [(0, .bool true), (1, .bool true), (2, .bool true), (3, .bool true)]) (e := 4) (cs := #[.bool true, .bool true, .bool true, .bool true]) (parts_cons rfl (parts_cons rfl (parts_cons rfl (parts_cons rfl parts_nil)))) (fun _ => by kernel_rfl) rfl ?_
    intro B117 w118 hN119
    have hlB117 := hN_ge hN119 hb0
    have hb120 := low0 hb0 hN119.grw
    refine wpo_assign (v := .slice (some ⟨B117, 0, none⟩) 4 4) rfl rfl ?_
    refine wpo_nil ?_
    refine wpf_ret ?_
    refine blk_r ?_
    refine thn_r ?_
    have e0 : need0 q = true := by unfold need0; simp [h107, h114, h116]
    have e1 : need1 q = true := by unfold need1; simp [h107, h114, h116]
    refine ⟨.slice (some ⟨B117, 0, none⟩) 4 4, res1 rfl rfl, B117, rfl, hlB117, ?_, hb120⟩
    rw [e0, e1]
    exact hN119.blk
   ·
    have h121 := of_decide_eq_false h115
    refine wpf_skip ?_
    refine blk_n ?_
    refine thn_n ?_
    refine wpf_seq_region ?_
    refine wpo_buildSlice (ps := [(0, .bool false), (1, .bool true), (2, .bool false), (3, .bool true)]) (e := 4) (cs := #[.bool false, .bool true, .bool false, .bool true]) (parts_cons rfl (parts_cons rfl (parts_cons rfl (parts_cons rfl parts_nil)))) (fun _ => by kernel_rfl) rfl ?_
    intro B122 w123 hN124
    have hlB122 := hN_ge hN124 hb0
    have hb125 := low0 hb0 hN124.grw
    refine wpo_assign (v := .slice (some ⟨B122, 0, none⟩) 4 4) rfl rfl ?_
    refine wpo_nil ?_
    refine wpf_ret ?_
    have e0 : need0 q = false := by unfold need0; simp [h107, h114, h121]
    have e1 : need1 q = true := by unfold need1; simp [h107, h114, h121]
    refine ⟨.slice (some ⟨B122, 0, none⟩) 4 4, res1 rfl rfl, B122, rfl, hlB122, ?_, hb125⟩
    rw [e0, e1]
    exact hN124.blk
theorem l11Check_c (q : Cl) (w : World) (ms : List MTh) (a : Option Addr) (c : Nat) (ht : TabAt w a ms) (hlen : TabLen ms) (hn : ms.length ≤ 1048576) (hT : tableOk (tabT ms) = true) (hc : callOk q = true) (hk : kindAt (tabT ms) q.run 3 = true) : CallsR Try.prog 119 #[.slice a ms.length c, .agg #[.int .i64 q.kind, .int .i64 q.run, .int .i64 q.a, .int .i64 q.b, .int .i64 q.n]] w (fun v w' => v = .int .i64 (check1 (tabT ms) q) ∧ w.grownBy w' none) := by
 refine calls_of_wpf (n := 95) Try.func119 rfl Try.ntmps119 rfl ?_
 have hb0 := World.grownBy.refl w none
 have hco := callOk_iff hc
 have hkp := (kindAt_parts hk).1
 have h4 := run_slots hT hk
 refine wpf_seq_region ?_
 refine wpo_box (v := .agg #[.int .i64 q.kind, .int .i64 q.run, .int .i64 q.a, .int .i64 q.b, .int .i64 q.n]) (cs := #[.int .i64 q.kind, .int .i64 q.run, .int .i64 q.a, .int .i64 q.b, .int .i64 q.n]) rfl rfl rfl ?_
 intro B101 w102 hN103
 have hlB101 := hN_ge hN103 hb0
 have hb104 := low0 hb0 hN103.grw
 refine wpo_assign (v := .int .i64 0) rfl rfl ?_
 refine wpo_nil ?_
 refine wpf_seq ?_
 refine wpf_seq_region ?_
 refine wpo_fieldAddr (o' := 0) fo_76_0 rfl rfl rfl ?_
 refine wpo_load1 (v := .int .i64 q.kind) ot_3 rfl (hN103.blk.cell rfl) rfl ?_
 refine wpo_eql (q := decide (q.kind = 3)) rfl rfl rfl rfl ?_
 refine wpo_nil ?_
 refine wpf_cond rfl (fun h105 => ?_) (fun h105 => ?_)
 ·
  have h106 := of_decide_eq_true h105
  refine wpf_seq_region ?_
  refine wpo_assign (v := .int .i64 0) rfl rfl ?_
  refine wpo_nil ?_
  refine wpf_ret ?_
  refine thn_r ?_
  refine ⟨.int .i64 0, res1 rfl rfl, ?_, hb104⟩
  exact congrArg (Value.int .i64) (check_copy h105)
 ·
  have h107 := of_decide_eq_false h105
  refine wpf_skip ?_
  refine thn_n ?_
  refine wpf_seq ?_
  obtain ⟨b160, q161, o162, ha163, ho164, hr165⟩ := SlAt.at (TabAt.low ht hb104).1 (map_get (mAt_get (show (q.run - 1).toNat < ms.length by omega)))
  have hle166 := TabLen.at hlen (mAt_get (show (q.run - 1).toNat < ms.length by omega))
  obtain ⟨b169, q170, o171, ha172, ho173, hr174⟩ := SlAt.at (TabAt.th (TabAt.low ht hb104) (mAt_get (show (q.run - 1).toNat < ms.length by omega))).1 (map_get (rAt_get (show (q.a).toNat < (mAt ms ((q.run - 1).toNat)).t.slots.length by omega)))
  have hts175 := tab_slot hT (show ((q.run - 1).toNat) < ms.length by omega) (show ((q.a).toNat) < (mAt ms ((q.run - 1).toNat)).t.slots.length by omega)
  refine wpf_drawI (m := 12) [[], [], [1], [1, 2], [0, 1, 2, 3], [0, 1, 2, 3, 4], [0, 1, 2, 3, 4, 5], [], [7], [0, 1, 2, 3, 4, 5, 6, 7, 8], [0, 1, 2, 3, 4, 5, 6, 7, 8, 9], [], [0, 1, 2, 3, 4, 5, 6, 7, 8, 9, 10, 11]] (fun S F w' => ∃ (B180 : Nat), w102.grownBy w' none ∧ F 0 = .slice a ms.length c ∧ F 3 = .pointer (some ⟨B101, 0, none⟩) ∧ F 4 = .int .i64 0 ∧ (S 0 = true → F 11 = .slice a ms.length c) ∧ (S 1 = true → F 12 = .pointer (some ⟨B101, 1, none⟩)) ∧ (S 2 = true → F 13 = .int .i64 q.run) ∧ (S 3 = true → F 14 = .int .i64 (q.run - 1)) ∧ (S 4 = true → F 15 = .pointer (some ⟨b160, o162, none⟩)) ∧ (S 5 = true → F 16 = .pointer (some ⟨b160, o162 + 5, none⟩)) ∧ (S 6 = true → F 17 = .slice ((mAt ms ((q.run - 1).toNat)).sa) ((mAt ms ((q.run - 1).toNat)).t.slots.length) ((mAt ms ((q.run - 1).toNat)).sc)) ∧ (S 7 = true → F 18 = .pointer (some ⟨B101, 2, none⟩)) ∧ (S 8 = true → F 19 = .int .i64 q.a) ∧ (S 9 = true → F 20 = .pointer (some ⟨b169, o171, none⟩)) ∧ (S 10 = true → F 21 = .agg #[.int .i64 ((rAt (mAt ms ((q.run - 1).toNat)).t.slots ((q.a).toNat)).th), .int .i64 ((rAt (mAt ms ((q.run - 1).toNat)).t.slots ((q.a).toNat)).ve), .bool ((rAt (mAt ms ((q.run - 1).toNat)).t.slots ((q.a).toNat)).rd), .bool ((rAt (mAt ms ((q.run - 1).toNat)).t.slots ((q.a).toNat)).wr), .bool ((rAt (mAt ms ((q.run - 1).toNat)).t.slots ((q.a).toNat)).wk)]) ∧ (S 11 = true → F 5 = .pointer (some ⟨B180, 0, none⟩) ∧ w.heap.size ≤ B180 ∧ Blk w' B180 29 #[.int .i64 0, .int .i64 0, .bool false, .bool false, .bool false] ∧ B101 < B180 ∧ w102.heap.size ≤ B180)) mixed_ (by kernel_rfl) ⟨0, grown_drew _, rfl, rfl, rfl, fun h => not_begun h, fun h => not_begun h, fun h => not_begun h, fun h => not_begun h, fun h => not_begun h, fun h => not_begun h, fun h => not_begun h, fun h => not_begun h, fun h => not_begun h, fun h => not_begun h, fun h => not_begun h, fun h => not_begun h⟩ ?_ ?_
  ·
   refine preL_cons (fun S F w184 hS hbef hcl hI => ?_) ?_
   ·
    obtain ⟨B180, hi185, e186, e187, e188, c_0, c_1, c_2, c_3, c_4, c_5, c_6, c_7, c_8, c_9, c_10, c_11⟩ := hI
    have hb189 := low0 hb104 hi185
    refine wpo_move (v := .slice a ms.length c) e186 rfl ?_
    exact wpo_nil ⟨B180, hi185, e186, e187, e188, fun _ => rfl, c_1, c_2, c_3, fun h => undone 4 hS hcl rfl h, fun h => undone 5 hS hcl rfl h, fun h => undone 6 hS hcl rfl h, c_7, c_8, fun h => undone 9 hS hcl rfl h, fun h => undone 10 hS hcl rfl h, c_11⟩
   refine preL_cons (fun S F w190 hS hbef hcl hI => ?_) ?_
   ·
    obtain ⟨B180, hi191, e192, e193, e194, c_0, c_1, c_2, c_3, c_4, c_5, c_6, c_7, c_8, c_9, c_10, c_11⟩ := hI
    have hb195 := low0 hb104 hi191
    refine wpo_fieldAddr (o' := 1) fo_76_1 e193 rfl rfl ?_
    exact wpo_nil ⟨B180, hi191, e192, e193, e194, c_0, fun _ => rfl, fun h => undone 2 hS hcl rfl h, fun h => undone 3 hS hcl rfl h, fun h => undone 4 hS hcl rfl h, fun h => undone 5 hS hcl rfl h, fun h => undone 6 hS hcl rfl h, c_7, c_8, fun h => undone 9 hS hcl rfl h, fun h => undone 10 hS hcl rfl h, c_11⟩
   refine preL_cons (fun S F w196 hS hbef hcl hI => ?_) ?_
   ·
    obtain ⟨B180, hi197, e198, e199, e200, c_0, c_1, c_2, c_3, c_4, c_5, c_6, c_7, c_8, c_9, c_10, c_11⟩ := hI
    have hb201 := low0 hb104 hi197
    obtain e202 := c_1 (ready_of 1 hbef rfl)
    have k203 := (hN103.blk.grown0 hi197)
    refine wpo_load1 (v := .int .i64 q.run) ot_3 e202 (k203.cell rfl) rfl ?_
    exact wpo_nil ⟨B180, hi197, e198, e199, e200, c_0, c_1, fun _ => rfl, fun h => undone 3 hS hcl rfl h, fun h => undone 4 hS hcl rfl h, fun h => undone 5 hS hcl rfl h, fun h => undone 6 hS hcl rfl h, c_7, c_8, fun h => undone 9 hS hcl rfl h, fun h => undone 10 hS hcl rfl h, c_11⟩
   refine preL_cons (fun S F w204 hS hbef hcl hI => ?_) ?_
   ·
    obtain ⟨B180, hi205, e206, e207, e208, c_0, c_1, c_2, c_3, c_4, c_5, c_6, c_7, c_8, c_9, c_10, c_11⟩ := hI
    have hb209 := low0 hb104 hi205
    obtain e210 := c_1 (ready_of 1 hbef rfl)
    obtain e211 := c_2 (ready_of 2 hbef rfl)
    refine wpo_sub (c := q.run - 1) e211 rfl (by omega) (by omega) (by omega) rfl ?_
    exact wpo_nil ⟨B180, hi205, e206, e207, e208, c_0, c_1, c_2, fun _ => rfl, fun h => undone 4 hS hcl rfl h, fun h => undone 5 hS hcl rfl h, fun h => undone 6 hS hcl rfl h, c_7, c_8, fun h => undone 9 hS hcl rfl h, fun h => undone 10 hS hcl rfl h, c_11⟩
   refine preL_cons (fun S F w212 hS hbef hcl hI => ?_) ?_
   ·
    obtain ⟨B180, hi213, e214, e215, e216, c_0, c_1, c_2, c_3, c_4, c_5, c_6, c_7, c_8, c_9, c_10, c_11⟩ := hI
    have hb217 := low0 hb104 hi213
    obtain e218 := c_0 (ready_of 0 hbef rfl)
    obtain e219 := c_1 (ready_of 1 hbef rfl)
    obtain e220 := c_2 (ready_of 2 hbef rfl)
    obtain e221 := c_3 (ready_of 3 hbef rfl)
    refine wpo_indexE es_54 e218 e221 ha163 ho164 (by omega) (by omega) rfl ?_
    exact wpo_nil ⟨B180, hi213, e214, e215, e216, c_0, c_1, c_2, c_3, fun _ => rfl, fun h => undone 5 hS hcl rfl h, fun h => undone 6 hS hcl rfl h, c_7, c_8, fun h => undone 9 hS hcl rfl h, fun h => undone 10 hS hcl rfl h, c_11⟩
   refine preL_cons (fun S F w222 hS hbef hcl hI => ?_) ?_
   ·
    obtain ⟨B180, hi223, e224, e225, e226, c_0, c_1, c_2, c_3, c_4, c_5, c_6, c_7, c_8, c_9, c_10, c_11⟩ := hI
    have hb227 := low0 hb104 hi223
    obtain e228 := c_0 (ready_of 0 hbef rfl)
    obtain e229 := c_1 (ready_of 1 hbef rfl)
    obtain e230 := c_2 (ready_of 2 hbef rfl)
    obtain e231 := c_3 (ready_of 3 hbef rfl)
    obtain e232 := c_4 (ready_of 4 hbef rfl)
    refine wpo_fieldAddr (o' := o162 + 5) fo_45_4 e232 rfl rfl ?_
    exact wpo_nil ⟨B180, hi223, e224, e225, e226, c_0, c_1, c_2, c_3, c_4, fun _ => rfl, fun h => undone 6 hS hcl rfl h, c_7, c_8, fun h => undone 9 hS hcl rfl h, fun h => undone 10 hS hcl rfl h, c_11⟩
   refine preL_cons (fun S F w233 hS hbef hcl hI => ?_) ?_
   ·
    obtain ⟨B180, hi234, e235, e236, e237, c_0, c_1, c_2, c_3, c_4, c_5, c_6, c_7, c_8, c_9, c_10, c_11⟩ := hI
    have hb238 := low0 hb104 hi234
    obtain e239 := c_0 (ready_of 0 hbef rfl)
    obtain e240 := c_1 (ready_of 1 hbef rfl)
    obtain e241 := c_2 (ready_of 2 hbef rfl)
    obtain e242 := c_3 (ready_of 3 hbef rfl)
    obtain e243 := c_4 (ready_of 4 hbef rfl)
    obtain e244 := c_5 (ready_of 5 hbef rfl)
    refine wpo_load1 (v := .slice ((mAt ms ((q.run - 1).toNat)).sa) ((mAt ms ((q.run - 1).toNat)).t.slots.length) ((mAt ms ((q.run - 1).toNat)).sc)) ot_27 e244 ((range_low hr165 hi234) 5 _ rfl) rfl ?_
    exact wpo_nil ⟨B180, hi234, e235, e236, e237, c_0, c_1, c_2, c_3, c_4, c_5, fun _ => rfl, c_7, c_8, fun h => undone 9 hS hcl rfl h, fun h => undone 10 hS hcl rfl h, c_11⟩
   refine preL_cons (fun S F w245 hS hbef hcl hI => ?_) ?_
   ·
    obtain ⟨B180, hi246, e247, e248, e249, c_0, c_1, c_2, c_3, c_4, c_5, c_6, c_7, c_8, c_9, c_10, c_11⟩ := hI
    have hb250 := low0 hb104 hi246
    refine wpo_fieldAddr (o' := 2) fo_76_2 e248 rfl rfl ?_
    exact wpo_nil ⟨B180, hi246, e247, e248, e249, c_0, c_1, c_2, c_3, c_4, c_5, c_6, fun _ => rfl, fun h => undone 8 hS hcl rfl h, fun h => undone 9 hS hcl rfl h, fun h => undone 10 hS hcl rfl h, c_11⟩
   refine preL_cons (fun S F w251 hS hbef hcl hI => ?_) ?_
   ·
    obtain ⟨B180, hi252, e253, e254, e255, c_0, c_1, c_2, c_3, c_4, c_5, c_6, c_7, c_8, c_9, c_10, c_11⟩ := hI
    have hb256 := low0 hb104 hi252
    obtain e257 := c_7 (ready_of 7 hbef rfl)
    have k258 := (hN103.blk.grown0 hi252)
    refine wpo_load1 (v := .int .i64 q.a) ot_3 e257 (k258.cell rfl) rfl ?_
    exact wpo_nil ⟨B180, hi252, e253, e254, e255, c_0, c_1, c_2, c_3, c_4, c_5, c_6, c_7, fun _ => rfl, fun h => undone 9 hS hcl rfl h, fun h => undone 10 hS hcl rfl h, c_11⟩
   refine preL_cons (fun S F w259 hS hbef hcl hI => ?_) ?_
   ·
    obtain ⟨B180, hi260, e261, e262, e263, c_0, c_1, c_2, c_3, c_4, c_5, c_6, c_7, c_8, c_9, c_10, c_11⟩ := hI
    have hb264 := low0 hb104 hi260
    obtain e265 := c_0 (ready_of 0 hbef rfl)
    obtain e266 := c_1 (ready_of 1 hbef rfl)
    obtain e267 := c_2 (ready_of 2 hbef rfl)
    obtain e268 := c_3 (ready_of 3 hbef rfl)
    obtain e269 := c_4 (ready_of 4 hbef rfl)
    obtain e270 := c_5 (ready_of 5 hbef rfl)
    obtain e271 := c_6 (ready_of 6 hbef rfl)
    obtain e272 := c_7 (ready_of 7 hbef rfl)
    obtain e273 := c_8 (ready_of 8 hbef rfl)
    refine wpo_indexE es_27 e271 e273 ha172 ho173 (by omega) (by omega) rfl ?_
    exact wpo_nil ⟨B180, hi260, e261, e262, e263, c_0, c_1, c_2, c_3, c_4, c_5, c_6, c_7, c_8, fun _ => rfl, fun h => undone 10 hS hcl rfl h, c_11⟩
   refine preL_cons (fun S F w274 hS hbef hcl hI => ?_) ?_
   ·
    obtain ⟨B180, hi275, e276, e277, e278, c_0, c_1, c_2, c_3, c_4, c_5, c_6, c_7, c_8, c_9, c_10, c_11⟩ := hI
    have hb279 := low0 hb104 hi275
    obtain e280 := c_0 (ready_of 0 hbef rfl)
    obtain e281 := c_1 (ready_of 1 hbef rfl)
    obtain e282 := c_2 (ready_of 2 hbef rfl)
    obtain e283 := c_3 (ready_of 3 hbef rfl)
    obtain e284 := c_4 (ready_of 4 hbef rfl)
    obtain e285 := c_5 (ready_of 5 hbef rfl)
    obtain e286 := c_6 (ready_of 6 hbef rfl)
    obtain e287 := c_7 (ready_of 7 hbef rfl)
    obtain e288 := c_8 (ready_of 8 hbef rfl)
    obtain e289 := c_9 (ready_of 9 hbef rfl)
    refine wpo_loadn (vs := [.int .i64 ((rAt (mAt ms ((q.run - 1).toNat)).t.slots ((q.a).toNat)).th), .int .i64 ((rAt (mAt ms ((q.run - 1).toNat)).t.slots ((q.a).toNat)).ve), .bool ((rAt (mAt ms ((q.run - 1).toNat)).t.slots ((q.a).toNat)).rd), .bool ((rAt (mAt ms ((q.run - 1).toNat)).t.slots ((q.a).toNat)).wr), .bool ((rAt (mAt ms ((q.run - 1).toNat)).t.slots ((q.a).toNat)).wk)]) rt_29 e289 rfl (range_sub (range_low hr174 hi275) 0 5 rfl) rfl ?_
    exact wpo_nil ⟨B180, hi275, e276, e277, e278, c_0, c_1, c_2, c_3, c_4, c_5, c_6, c_7, c_8, c_9, fun _ => rfl, c_11⟩
   refine preL_cons (fun S F w290 hS hbef hcl hI => ?_) ?_
   ·
    obtain ⟨B180, hi291, e292, e293, e294, c_0, c_1, c_2, c_3, c_4, c_5, c_6, c_7, c_8, c_9, c_10, c_11⟩ := hI
    have hb295 := low0 hb104 hi291
    refine wpo_alloc (cs := #[.int .i64 0, .int .i64 0, .bool false, .bool false, .bool false]) zt_29 rfl rfl ?_
    intro B296 w297 hN298
    have hlB296 := hN_ge hN298 hb295
    have k299 := (hN103.blk.grown0 hi291)
    have lt_B101_B296 := hN_gtl hN298 (k299).lt
    have hb300 := low0 hb295 hN298.grw
    exact wpo_nil ⟨B296, (low0 hi291 hN298.grw), e292, e293, e294, c_0, c_1, c_2, c_3, c_4, c_5, c_6, c_7, c_8, c_9, c_10, fun _ => ⟨rfl, hlB296, hN298.blk, lt_B101_B296, (Nat.le_trans hi291.size (Nat.le_of_eq hN298.eq.symm))⟩⟩
   exact preL_nil
  ·
   intro S F w301 hall hI
   obtain ⟨B180, hi302, e303, e304, e305, c_0, c_1, c_2, c_3, c_4, c_5, c_6, c_7, c_8, c_9, c_10, c_11⟩ := hI
   have hb306 := low0 hb104 hi302
   obtain e307 := c_0 (hall 0 (by decide))
   obtain e308 := c_1 (hall 1 (by decide))
   obtain e309 := c_2 (hall 2 (by decide))
   obtain e310 := c_3 (hall 3 (by decide))
   obtain e311 := c_4 (hall 4 (by decide))
   obtain e312 := c_5 (hall 5 (by decide))
   obtain e313 := c_6 (hall 6 (by decide))
   obtain e314 := c_7 (hall 7 (by decide))
   obtain e315 := c_8 (hall 8 (by decide))
   obtain e316 := c_9 (hall 9 (by decide))
   obtain e317 := c_10 (hall 10 (by decide))
   obtain ⟨e318, hlB180, kb_B180, lt_B101_B180, hk_B180⟩ := c_11 (hall 11 (by decide))
   refine wpo_storen (vs := [.int .i64 ((rAt (mAt ms ((q.run - 1).toNat)).t.slots ((q.a).toNat)).th), .int .i64 ((rAt (mAt ms ((q.run - 1).toNat)).t.slots ((q.a).toNat)).ve), .bool ((rAt (mAt ms ((q.run - 1).toNat)).t.slots ((q.a).toNat)).rd), .bool ((rAt (mAt ms ((q.run - 1).toNat)).t.slots ((q.a).toNat)).wr), .bool ((rAt (mAt ms ((q.run - 1).toNat)).t.slots ((q.a).toNat)).wk)]) (cs' := #[.int .i64 ((rAt (mAt ms ((q.run - 1).toNat)).t.slots ((q.a).toNat)).th), .int .i64 ((rAt (mAt ms ((q.run - 1).toNat)).t.slots ((q.a).toNat)).ve), .bool ((rAt (mAt ms ((q.run - 1).toNat)).t.slots ((q.a).toNat)).rd), .bool ((rAt (mAt ms ((q.run - 1).toNat)).t.slots ((q.a).toNat)).wr), .bool ((rAt (mAt ms ((q.run - 1).toNat)).t.slots ((q.a).toNat)).wk)]) rt_29 e318 e317 rfl (by simp [Value.oneCell']) kb_B180 (Nat.le_of_ble_eq_true rfl) rfl ?_
   intro w319 hS320
   have hb321 := low1 hb306 hS320.grw (by omega)
   refine wpo_nil ?_
   refine thn_n ?_
   refine wpf_seq_region ?_
   refine wpo_fieldAddr (o' := 0) fo_76_0 e304 rfl rfl ?_
   have k322 := ((hN103.blk.grown0 hi302).grown hS320.grw (some_ne (by omega)))
   refine wpo_load1 (v := .int .i64 q.kind) ot_3 rfl (k322.cell rfl) rfl ?_
   refine wpo_call (vs := [.int .i64 q.kind]) gf_123 (args_cons rfl args_nil) rfl (l11Needs_c q.kind _) ?_
   rintro _ w327 ⟨B323, rfl, hge324, k325, hg326⟩
   have hb328 := low0 hb321 hg326
   have hlB323 := Nat.le_trans hb321.size hge324
   have lt_B101_B323 := Nat.lt_of_lt_of_le (k322).lt hge324
   have lt_B180_B323 := Nat.lt_of_lt_of_le (hS320.blk).lt hge324
   refine wpo_assign (v := .slice (some ⟨B323, 0, none⟩) 4 4) rfl rfl ?_
   refine wpo_nil ?_
   refine wpf_seq ?_
   refine wpf_seq_mid (fun f' w' => (f' 0 = .slice a ms.length c ∧ f' 3 = .pointer (some ⟨B101, 0, none⟩) ∧ f' 4 = .int .i64 0 ∧ f' 5 = .pointer (some ⟨B180, 0, none⟩) ∧ f' 6 = .slice (some ⟨B323, 0, none⟩) 4 4 ∧ f' 60 = .bool ((((decide ((rAt (mAt ms ((q.run - 1).toNat)).t.slots ((q.a).toNat)).th = 0)) || (!kindFor q.kind ((mAt ms ((((rAt (mAt ms ((q.run - 1).toNat)).t.slots ((q.a).toNat)).th) - 1).toNat)).t.kind))) || (need0 q.kind && (!(rAt (mAt ms ((q.run - 1).toNat)).t.slots ((q.a).toNat)).rd))) || (need1 q.kind && (!(rAt (mAt ms ((q.run - 1).toNat)).t.slots ((q.a).toNat)).wr)))) ∧ w327.grownBy w' none) ?_ ?_
   ·
    rcases bcases (decide ((rAt (mAt ms ((q.run - 1).toNat)).t.slots ((q.a).toNat)).th = 0)) with h347 | h347
    ·
     have h348 := of_decide_eq_true h347
     refine wpf_draw (m := 13) (vals := [(25, .pointer (some ⟨B180, 0, none⟩)), (26, .int .i64 ((rAt (mAt ms ((q.run - 1).toNat)).t.slots ((q.a).toNat)).th)), (27, .bool (decide ((rAt (mAt ms ((q.run - 1).toNat)).t.slots ((q.a).toNat)).th = 0))), (28, .bool (decide ((rAt (mAt ms ((q.run - 1).toNat)).t.slots ((q.a).toNat)).th = 0))), (29, undef), (30, undef), (31, undef), (32, undef), (33, undef), (34, undef), (35, undef), (36, undef), (37, undef)]) (fun w' => w327.grownBy w' none) mixed_ (by kernel_rfl) (grown_drew _) ?_ ?_
     ·
      refine yll_cons rfl (fun w352 hi353 => ?_) ?_
      ·
       have hb354 := low0 hb328 hi353
       refine wpo_fieldAddr (o' := 0) fo_29_0 e318 rfl rfl ?_
       exact wpo_nil ⟨rfl, hi353⟩
      refine yll_cons rfl (fun w355 hi356 => ?_) ?_
      ·
       have hb357 := low0 hb328 hi356
       have k358 := ((hS320.blk.grown0 hg326).grown0 hi356)
       refine wpo_load1 (v := .int .i64 ((rAt (mAt ms ((q.run - 1).toNat)).t.slots ((q.a).toNat)).th)) ot_3 rfl (k358.cell rfl) rfl ?_
       exact wpo_nil ⟨rfl, hi356⟩
      refine yll_cons rfl (fun w359 hi360 => ?_) ?_
      ·
       have hb361 := low0 hb328 hi360
       refine wpo_eql (q := decide ((rAt (mAt ms ((q.run - 1).toNat)).t.slots ((q.a).toNat)).th = 0)) rfl rfl rfl rfl ?_
       exact wpo_nil ⟨rfl, hi360⟩
      refine yll_cons rfl (fun w362 hi363 => ?_) ?_
      ·
       have hb364 := low0 hb328 hi363
       refine wpo_move (v := .bool (decide ((rAt (mAt ms ((q.run - 1).toNat)).t.slots ((q.a).toNat)).th = 0))) rfl rfl ?_
       exact wpo_nil ⟨rfl, hi363⟩
      refine yll_cons rfl (fun w365 hi366 => ?_) ?_
      ·
       have hb367 := low0 hb328 hi366
       refine wpo_pass rfl rfl rfl h347 rfl ?_
       exact wpo_nil ⟨rfl, hi366⟩
      refine yll_cons rfl (fun w368 hi369 => ?_) ?_
      ·
       have hb370 := low0 hb328 hi369
       refine wpo_pass rfl rfl rfl h347 rfl ?_
       exact wpo_nil ⟨rfl, hi369⟩
      refine yll_cons rfl (fun w371 hi372 => ?_) ?_
      ·
       have hb373 := low0 hb328 hi372
       refine wpo_pass rfl rfl rfl h347 rfl ?_
       exact wpo_nil ⟨rfl, hi372⟩
      refine yll_cons rfl (fun w374 hi375 => ?_) ?_
      ·
       have hb376 := low0 hb328 hi375
       refine wpo_pass rfl rfl rfl h347 rfl ?_
       exact wpo_nil ⟨rfl, hi375⟩
      refine yll_cons rfl (fun w377 hi378 => ?_) ?_
      ·
       have hb379 := low0 hb328 hi378
       refine wpo_pass rfl rfl rfl h347 rfl ?_
       exact wpo_nil ⟨rfl, hi378⟩
      refine yll_cons rfl (fun w380 hi381 => ?_) ?_
      ·
       have hb382 := low0 hb328 hi381
       refine wpo_pass rfl rfl rfl h347 rfl ?_
       exact wpo_nil ⟨rfl, hi381⟩
      refine yll_cons rfl (fun w383 hi384 => ?_) ?_
      ·
       have hb385 := low0 hb328 hi384
       refine wpo_pass rfl rfl rfl h347 rfl ?_
       exact wpo_nil ⟨rfl, hi384⟩
      refine yll_cons rfl (fun w386 hi387 => ?_) ?_
      ·
       have hb388 := low0 hb328 hi387
       refine wpo_pass rfl rfl rfl h347 rfl ?_
       exact wpo_nil ⟨rfl, hi387⟩
      refine yll_cons rfl (fun w389 hi390 => ?_) ?_
      ·
       have hb391 := low0 hb328 hi390
       refine wpo_pass rfl rfl rfl h347 rfl ?_
       exact wpo_nil ⟨rfl, hi390⟩
      exact yll_nil
     ·
      intro w392 hi393
      have hb394 := low0 hb328 hi393
      refine wpo_pass rfl rfl rfl h347 rfl ?_
      refine wpo_pass rfl rfl rfl h347 rfl ?_
      refine wpo_pickt (v := .bool true) rfl h347 rfl rfl ?_
      refine wpo_move (v := .bool true) rfl rfl ?_
      iterate 4 refine wpo_pass rfl rfl rfl rfl rfl ?_
      iterate 3 refine wpo_passu rfl rfl rfl rfl ?_
      refine wpo_pass rfl rfl rfl rfl rfl ?_
      refine wpo_pickt (v := .bool true) rfl rfl rfl rfl ?_
      refine wpo_move (v := .bool true) rfl rfl ?_
      iterate 4 refine wpo_pass rfl rfl rfl rfl rfl ?_
      iterate 3 refine wpo_passu rfl rfl rfl rfl ?_
      refine wpo_pass rfl rfl rfl rfl rfl ?_
      refine wpo_pickt (v := .bool true) rfl rfl rfl rfl ?_
      exact wpo_nil (thn_n ⟨⟨e303, e304, e305, e318, rfl, (congrArg Value.bool (by first | (simp only [h105, h347, hT, b0, b1, b2, b3, b4, b5, b6, b7, b8, b9]; done) | simp [h105, h347, hT]))⟩, hi393⟩)
    ·
     have h395 := of_decide_eq_false h347
     rcases bcases (!kindFor q.kind ((mAt ms ((((rAt (mAt ms ((q.run - 1).toNat)).t.slots ((q.a).toNat)).th) - 1).toNat)).t.kind)) with h410 | h410
     ·
      have h411 := nt_t h410
      obtain ⟨b430, q431, o432, ha433, ho434, hr435⟩ := SlAt.at (TabAt.low ht hb328).1 (map_get (mAt_get (show (((rAt (mAt ms ((q.run - 1).toNat)).t.slots ((q.a).toNat)).th) - 1).toNat < ms.length by omega)))
      have hle436 := TabLen.at hlen (mAt_get (show (((rAt (mAt ms ((q.run - 1).toNat)).t.slots ((q.a).toNat)).th) - 1).toNat < ms.length by omega))
      refine wpf_draw (m := 13) (vals := [(25, .pointer (some ⟨B180, 0, none⟩)), (26, .int .i64 ((rAt (mAt ms ((q.run - 1).toNat)).t.slots ((q.a).toNat)).th)), (27, .bool (decide ((rAt (mAt ms ((q.run - 1).toNat)).t.slots ((q.a).toNat)).th = 0))), (28, .bool (decide ((rAt (mAt ms ((q.run - 1).toNat)).t.slots ((q.a).toNat)).th = 0))), (29, .pointer (some ⟨B101, 0, none⟩)), (30, .int .i64 q.kind), (31, .slice a ms.length c), (32, .pointer (some ⟨B180, 0, none⟩)), (33, .int .i64 ((rAt (mAt ms ((q.run - 1).toNat)).t.slots ((q.a).toNat)).th)), (34, .int .i64 (((rAt (mAt ms ((q.run - 1).toNat)).t.slots ((q.a).toNat)).th) - 1)), (35, .pointer (some ⟨b430, o432, none⟩)), (36, .pointer (some ⟨b430, o432, none⟩)), (37, .int .i64 ((mAt ms ((((rAt (mAt ms ((q.run - 1).toNat)).t.slots ((q.a).toNat)).th) - 1).toNat)).t.kind))]) (fun w' => w327.grownBy w' none) mixed_ (by kernel_rfl) (grown_drew _) ?_ ?_
      ·
       refine yll_cons rfl (fun w442 hi443 => ?_) ?_
       ·
        have hb444 := low0 hb328 hi443
        refine wpo_fieldAddr (o' := 0) fo_29_0 e318 rfl rfl ?_
        exact wpo_nil ⟨rfl, hi443⟩
       refine yll_cons rfl (fun w445 hi446 => ?_) ?_
       ·
        have hb447 := low0 hb328 hi446
        have k448 := ((hS320.blk.grown0 hg326).grown0 hi446)
        refine wpo_load1 (v := .int .i64 ((rAt (mAt ms ((q.run - 1).toNat)).t.slots ((q.a).toNat)).th)) ot_3 rfl (k448.cell rfl) rfl ?_
        exact wpo_nil ⟨rfl, hi446⟩
       refine yll_cons rfl (fun w449 hi450 => ?_) ?_
       ·
        have hb451 := low0 hb328 hi450
        refine wpo_eql (q := decide ((rAt (mAt ms ((q.run - 1).toNat)).t.slots ((q.a).toNat)).th = 0)) rfl rfl rfl rfl ?_
        exact wpo_nil ⟨rfl, hi450⟩
       refine yll_cons rfl (fun w452 hi453 => ?_) ?_
       ·
        have hb454 := low0 hb328 hi453
        refine wpo_move (v := .bool (decide ((rAt (mAt ms ((q.run - 1).toNat)).t.slots ((q.a).toNat)).th = 0))) rfl rfl ?_
        exact wpo_nil ⟨rfl, hi453⟩
       refine yll_cons rfl (fun w455 hi456 => ?_) ?_
       ·
        have hb457 := low0 hb328 hi456
        refine wpo_run rfl rfl rfl h347 ?_
        refine wpo_fieldAddr (o' := 0) fo_76_0 e304 rfl rfl ?_
        exact wpo_nil ⟨rfl, hi456⟩
       refine yll_cons rfl (fun w458 hi459 => ?_) ?_
       ·
        have hb460 := low0 hb328 hi459
        refine wpo_run rfl rfl rfl h347 ?_
        have k461 := ((k322.grown0 hg326).grown0 hi459)
        refine wpo_load1 (v := .int .i64 q.kind) ot_3 rfl (k461.cell rfl) rfl ?_
        exact wpo_nil ⟨rfl, hi459⟩
       refine yll_cons rfl (fun w462 hi463 => ?_) ?_
       ·
        have hb464 := low0 hb328 hi463
        refine wpo_run rfl rfl rfl h347 ?_
        refine wpo_move (v := .slice a ms.length c) e303 rfl ?_
        exact wpo_nil ⟨rfl, hi463⟩
       refine yll_cons rfl (fun w465 hi466 => ?_) ?_
       ·
        have hb467 := low0 hb328 hi466
        refine wpo_run rfl rfl rfl h347 ?_
        refine wpo_fieldAddr (o' := 0) fo_29_0 e318 rfl rfl ?_
        exact wpo_nil ⟨rfl, hi466⟩
       refine yll_cons rfl (fun w468 hi469 => ?_) ?_
       ·
        have hb470 := low0 hb328 hi469
        refine wpo_run rfl rfl rfl h347 ?_
        have k471 := ((hS320.blk.grown0 hg326).grown0 hi469)
        refine wpo_load1 (v := .int .i64 ((rAt (mAt ms ((q.run - 1).toNat)).t.slots ((q.a).toNat)).th)) ot_3 rfl (k471.cell rfl) rfl ?_
        exact wpo_nil ⟨rfl, hi469⟩
       refine yll_cons rfl (fun w472 hi473 => ?_) ?_
       ·
        have hb474 := low0 hb328 hi473
        refine wpo_run rfl rfl rfl h347 ?_
        refine wpo_sub (c := ((rAt (mAt ms ((q.run - 1).toNat)).t.slots ((q.a).toNat)).th) - 1) rfl rfl (by omega) (by omega) (by omega) rfl ?_
        exact wpo_nil ⟨rfl, hi473⟩
       refine yll_cons rfl (fun w475 hi476 => ?_) ?_
       ·
        have hb477 := low0 hb328 hi476
        refine wpo_run rfl rfl rfl h347 ?_
        refine wpo_indexE es_54 rfl rfl ha433 ho434 (by omega) (by omega) rfl ?_
        exact wpo_nil ⟨rfl, hi476⟩
       refine yll_cons rfl (fun w478 hi479 => ?_) ?_
       ·
        have hb480 := low0 hb328 hi479
        refine wpo_run rfl rfl rfl h347 ?_
        refine wpo_fieldAddr (o' := o432) fo_45_0 rfl rfl rfl ?_
        exact wpo_nil ⟨rfl, hi479⟩
       refine yll_cons rfl (fun w481 hi482 => ?_) ?_
       ·
        have hb483 := low0 hb328 hi482
        refine wpo_run rfl rfl rfl h347 ?_
        refine wpo_load1 (v := .int .i64 ((mAt ms ((((rAt (mAt ms ((q.run - 1).toNat)).t.slots ((q.a).toNat)).th) - 1).toNat)).t.kind)) ot_3 rfl ((range_low hr435 hi482) 0 _ rfl) rfl ?_
        exact wpo_nil ⟨rfl, hi482⟩
       exact yll_nil
      ·
       intro w484 hi485
       have hb486 := low0 hb328 hi485
       refine wpo_run rfl rfl rfl h347 ?_
       refine wpo_call (vs := [.int .i64 q.kind, .int .i64 ((mAt ms ((((rAt (mAt ms ((q.run - 1).toNat)).t.slots ((q.a).toNat)).th) - 1).toNat)).t.kind)]) gf_118 (args_cons rfl (args_cons rfl args_nil)) rfl (l11Kind_c q.kind ((mAt ms ((((rAt (mAt ms ((q.run - 1).toNat)).t.slots ((q.a).toNat)).th) - 1).toNat)).t.kind) _) ?_
       rintro _ w487 ⟨rfl, hg488⟩
       have hb489 := low0 hb486 hg488
       refine wpo_run rfl rfl rfl h347 ?_
       refine wpo_not (b' := !kindFor q.kind ((mAt ms ((((rAt (mAt ms ((q.run - 1).toNat)).t.slots ((q.a).toNat)).th) - 1).toNat)).t.kind)) rfl rfl rfl ?_
       refine wpo_pickf (v := .bool (!kindFor q.kind ((mAt ms ((((rAt (mAt ms ((q.run - 1).toNat)).t.slots ((q.a).toNat)).th) - 1).toNat)).t.kind))) rfl h347 rfl rfl ?_
       refine wpo_move (v := .bool (!kindFor q.kind ((mAt ms ((((rAt (mAt ms ((q.run - 1).toNat)).t.slots ((q.a).toNat)).th) - 1).toNat)).t.kind))) rfl rfl ?_
       iterate 4 refine wpo_pass rfl rfl rfl h410 rfl ?_
       iterate 3 refine wpo_passu rfl rfl rfl rfl ?_
       refine wpo_pass rfl rfl rfl h410 rfl ?_
       refine wpo_pickt (v := .bool true) rfl h410 rfl rfl ?_
       refine wpo_move (v := .bool true) rfl rfl ?_
       iterate 4 refine wpo_pass rfl rfl rfl rfl rfl ?_
       iterate 3 refine wpo_passu rfl rfl rfl rfl ?_
       refine wpo_pass rfl rfl rfl rfl rfl ?_
       refine wpo_pickt (v := .bool true) rfl rfl rfl rfl ?_
       exact wpo_nil (thn_n ⟨⟨e303, e304, e305, e318, rfl, (congrArg Value.bool (by first | (simp only [h105, h347, h410, h411, hT, b0, b1, b2, b3, b4, b5, b6, b7, b8, b9]; done) | simp [h105, h347, h410, h411, hT]))⟩, (grown_trans hi485 hg488)⟩)
     ·
      have h490 := nt_f h410
      rcases bcases (need0 q.kind) with h506 | h506
      ·
       rcases bcases (!(rAt (mAt ms ((q.run - 1).toNat)).t.slots ((q.a).toNat)).rd) with h523 | h523
       ·
        have h524 := nt_t h523
        obtain ⟨b545, q546, o547, ha548, ho549, hr550⟩ := SlAt.at (TabAt.low ht hb328).1 (map_get (mAt_get (show (((rAt (mAt ms ((q.run - 1).toNat)).t.slots ((q.a).toNat)).th) - 1).toNat < ms.length by omega)))
        have hle551 := TabLen.at hlen (mAt_get (show (((rAt (mAt ms ((q.run - 1).toNat)).t.slots ((q.a).toNat)).th) - 1).toNat < ms.length by omega))
        refine wpf_draw (m := 13) (vals := [(25, .pointer (some ⟨B180, 0, none⟩)), (26, .int .i64 ((rAt (mAt ms ((q.run - 1).toNat)).t.slots ((q.a).toNat)).th)), (27, .bool (decide ((rAt (mAt ms ((q.run - 1).toNat)).t.slots ((q.a).toNat)).th = 0))), (28, .bool (decide ((rAt (mAt ms ((q.run - 1).toNat)).t.slots ((q.a).toNat)).th = 0))), (29, .pointer (some ⟨B101, 0, none⟩)), (30, .int .i64 q.kind), (31, .slice a ms.length c), (32, .pointer (some ⟨B180, 0, none⟩)), (33, .int .i64 ((rAt (mAt ms ((q.run - 1).toNat)).t.slots ((q.a).toNat)).th)), (34, .int .i64 (((rAt (mAt ms ((q.run - 1).toNat)).t.slots ((q.a).toNat)).th) - 1)), (35, .pointer (some ⟨b545, o547, none⟩)), (36, .pointer (some ⟨b545, o547, none⟩)), (37, .int .i64 ((mAt ms ((((rAt (mAt ms ((q.run - 1).toNat)).t.slots ((q.a).toNat)).th) - 1).toNat)).t.kind))]) (fun w' => w327.grownBy w' none) mixed_ (by kernel_rfl) (grown_drew _) ?_ ?_
        ·
         refine yll_cons rfl (fun w559 hi560 => ?_) ?_
         ·
          have hb561 := low0 hb328 hi560
          refine wpo_fieldAddr (o' := 0) fo_29_0 e318 rfl rfl ?_
          exact wpo_nil ⟨rfl, hi560⟩
         refine yll_cons rfl (fun w562 hi563 => ?_) ?_
         ·
          have hb564 := low0 hb328 hi563
          have k565 := ((hS320.blk.grown0 hg326).grown0 hi563)
          refine wpo_load1 (v := .int .i64 ((rAt (mAt ms ((q.run - 1).toNat)).t.slots ((q.a).toNat)).th)) ot_3 rfl (k565.cell rfl) rfl ?_
          exact wpo_nil ⟨rfl, hi563⟩
         refine yll_cons rfl (fun w566 hi567 => ?_) ?_
         ·
          have hb568 := low0 hb328 hi567
          refine wpo_eql (q := decide ((rAt (mAt ms ((q.run - 1).toNat)).t.slots ((q.a).toNat)).th = 0)) rfl rfl rfl rfl ?_
          exact wpo_nil ⟨rfl, hi567⟩
         refine yll_cons rfl (fun w569 hi570 => ?_) ?_
         ·
          have hb571 := low0 hb328 hi570
          refine wpo_move (v := .bool (decide ((rAt (mAt ms ((q.run - 1).toNat)).t.slots ((q.a).toNat)).th = 0))) rfl rfl ?_
          exact wpo_nil ⟨rfl, hi570⟩
         refine yll_cons rfl (fun w572 hi573 => ?_) ?_
         ·
          have hb574 := low0 hb328 hi573
          refine wpo_run rfl rfl rfl h347 ?_
          refine wpo_fieldAddr (o' := 0) fo_76_0 e304 rfl rfl ?_
          exact wpo_nil ⟨rfl, hi573⟩
         refine yll_cons rfl (fun w575 hi576 => ?_) ?_
         ·
          have hb577 := low0 hb328 hi576
          refine wpo_run rfl rfl rfl h347 ?_
          have k578 := ((k322.grown0 hg326).grown0 hi576)
          refine wpo_load1 (v := .int .i64 q.kind) ot_3 rfl (k578.cell rfl) rfl ?_
          exact wpo_nil ⟨rfl, hi576⟩
         refine yll_cons rfl (fun w579 hi580 => ?_) ?_
         ·
          have hb581 := low0 hb328 hi580
          refine wpo_run rfl rfl rfl h347 ?_
          refine wpo_move (v := .slice a ms.length c) e303 rfl ?_
          exact wpo_nil ⟨rfl, hi580⟩
         refine yll_cons rfl (fun w582 hi583 => ?_) ?_
         ·
          have hb584 := low0 hb328 hi583
          refine wpo_run rfl rfl rfl h347 ?_
          refine wpo_fieldAddr (o' := 0) fo_29_0 e318 rfl rfl ?_
          exact wpo_nil ⟨rfl, hi583⟩
         refine yll_cons rfl (fun w585 hi586 => ?_) ?_
         ·
          have hb587 := low0 hb328 hi586
          refine wpo_run rfl rfl rfl h347 ?_
          have k588 := ((hS320.blk.grown0 hg326).grown0 hi586)
          refine wpo_load1 (v := .int .i64 ((rAt (mAt ms ((q.run - 1).toNat)).t.slots ((q.a).toNat)).th)) ot_3 rfl (k588.cell rfl) rfl ?_
          exact wpo_nil ⟨rfl, hi586⟩
         refine yll_cons rfl (fun w589 hi590 => ?_) ?_
         ·
          have hb591 := low0 hb328 hi590
          refine wpo_run rfl rfl rfl h347 ?_
          refine wpo_sub (c := ((rAt (mAt ms ((q.run - 1).toNat)).t.slots ((q.a).toNat)).th) - 1) rfl rfl (by omega) (by omega) (by omega) rfl ?_
          exact wpo_nil ⟨rfl, hi590⟩
         refine yll_cons rfl (fun w592 hi593 => ?_) ?_
         ·
          have hb594 := low0 hb328 hi593
          refine wpo_run rfl rfl rfl h347 ?_
          refine wpo_indexE es_54 rfl rfl ha548 ho549 (by omega) (by omega) rfl ?_
          exact wpo_nil ⟨rfl, hi593⟩
         refine yll_cons rfl (fun w595 hi596 => ?_) ?_
         ·
          have hb597 := low0 hb328 hi596
          refine wpo_run rfl rfl rfl h347 ?_
          refine wpo_fieldAddr (o' := o547) fo_45_0 rfl rfl rfl ?_
          exact wpo_nil ⟨rfl, hi596⟩
         refine yll_cons rfl (fun w598 hi599 => ?_) ?_
         ·
          have hb600 := low0 hb328 hi599
          refine wpo_run rfl rfl rfl h347 ?_
          refine wpo_load1 (v := .int .i64 ((mAt ms ((((rAt (mAt ms ((q.run - 1).toNat)).t.slots ((q.a).toNat)).th) - 1).toNat)).t.kind)) ot_3 rfl ((range_low hr550 hi599) 0 _ rfl) rfl ?_
          exact wpo_nil ⟨rfl, hi599⟩
         exact yll_nil
        ·
         intro w601 hi602
         have hb603 := low0 hb328 hi602
         refine wpo_run rfl rfl rfl h347 ?_
         refine wpo_call (vs := [.int .i64 q.kind, .int .i64 ((mAt ms ((((rAt (mAt ms ((q.run - 1).toNat)).t.slots ((q.a).toNat)).th) - 1).toNat)).t.kind)]) gf_118 (args_cons rfl (args_cons rfl args_nil)) rfl (l11Kind_c q.kind ((mAt ms ((((rAt (mAt ms ((q.run - 1).toNat)).t.slots ((q.a).toNat)).th) - 1).toNat)).t.kind) _) ?_
         rintro _ w604 ⟨rfl, hg605⟩
         have hb606 := low0 hb603 hg605
         refine wpo_run rfl rfl rfl h347 ?_
         refine wpo_not (b' := !kindFor q.kind ((mAt ms ((((rAt (mAt ms ((q.run - 1).toNat)).t.slots ((q.a).toNat)).th) - 1).toNat)).t.kind)) rfl rfl rfl ?_
         refine wpo_pickf (v := .bool (!kindFor q.kind ((mAt ms ((((rAt (mAt ms ((q.run - 1).toNat)).t.slots ((q.a).toNat)).th) - 1).toNat)).t.kind))) rfl h347 rfl rfl ?_
         refine wpo_move (v := .bool (!kindFor q.kind ((mAt ms ((((rAt (mAt ms ((q.run - 1).toNat)).t.slots ((q.a).toNat)).th) - 1).toNat)).t.kind))) rfl rfl ?_
         refine wpo_run rfl rfl rfl h410 ?_
         refine wpo_move (v := .slice (some ⟨B323, 0, none⟩) 4 4) rfl rfl ?_
         refine wpo_run rfl rfl rfl h410 ?_
         refine wpo_indexAddr (o' := 0) es_145 rfl rfl (by omega) (by omega) rfl rfl ?_
         refine wpo_run rfl rfl rfl h410 ?_
         have k607 := ((k325.grown0 hi602).grown0 hg605)
         refine wpo_load1 (v := .bool (need0 q.kind)) ot_4 rfl (k607.cell rfl) rfl ?_
         refine wpo_run rfl rfl rfl h410 ?_
         refine wpo_move (v := .bool (need0 q.kind)) rfl rfl ?_
         refine wpo_run rfl rfl rfl h506 ?_
         refine wpo_fieldAddr (o' := 2) fo_29_2 e318 rfl rfl ?_
         refine wpo_run rfl rfl rfl h506 ?_
         have k608 := (((hS320.blk.grown0 hg326).grown0 hi602).grown0 hg605)
         refine wpo_load1 (v := .bool ((rAt (mAt ms ((q.run - 1).toNat)).t.slots ((q.a).toNat)).rd)) ot_4 rfl (k608.cell rfl) rfl ?_
         refine wpo_run rfl rfl rfl h506 ?_
         refine wpo_not (b' := !(rAt (mAt ms ((q.run - 1).toNat)).t.slots ((q.a).toNat)).rd) rfl rfl rfl ?_
         refine wpo_run rfl rfl rfl h410 ?_
         refine wpo_pickt (v := .bool (!(rAt (mAt ms ((q.run - 1).toNat)).t.slots ((q.a).toNat)).rd)) rfl h506 rfl rfl ?_
         refine wpo_pickf (v := .bool (!(rAt (mAt ms ((q.run - 1).toNat)).t.slots ((q.a).toNat)).rd)) rfl h410 rfl rfl ?_
         refine wpo_move (v := .bool (!(rAt (mAt ms ((q.run - 1).toNat)).t.slots ((q.a).toNat)).rd)) rfl rfl ?_
         iterate 4 refine wpo_pass rfl rfl rfl h523 rfl ?_
         iterate 3 refine wpo_passu rfl rfl rfl rfl ?_
         refine wpo_pass rfl rfl rfl h523 rfl ?_
         refine wpo_pickt (v := .bool true) rfl h523 rfl rfl ?_
         exact wpo_nil (thn_n ⟨⟨e303, e304, e305, e318, rfl, (congrArg Value.bool (by first | (simp only [h105, h347, h410, h490, h506, h523, h524, hT, b0, b1, b2, b3, b4, b5, b6, b7, b8, b9]; done) | simp [h105, h347, h410, h490, h506, h523, h524, hT]))⟩, (grown_trans hi602 hg605)⟩)
       ·
        have h609 := nt_f h523
        rcases bcases (need1 q.kind) with h626 | h626
        ·
         obtain ⟨b647, q648, o649, ha650, ho651, hr652⟩ := SlAt.at (TabAt.low ht hb328).1 (map_get (mAt_get (show (((rAt (mAt ms ((q.run - 1).toNat)).t.slots ((q.a).toNat)).th) - 1).toNat < ms.length by omega)))
         have hle653 := TabLen.at hlen (mAt_get (show (((rAt (mAt ms ((q.run - 1).toNat)).t.slots ((q.a).toNat)).th) - 1).toNat < ms.length by omega))
         refine wpf_draw (m := 13) (vals := [(25, .pointer (some ⟨B180, 0, none⟩)), (26, .int .i64 ((rAt (mAt ms ((q.run - 1).toNat)).t.slots ((q.a).toNat)).th)), (27, .bool (decide ((rAt (mAt ms ((q.run - 1).toNat)).t.slots ((q.a).toNat)).th = 0))), (28, .bool (decide ((rAt (mAt ms ((q.run - 1).toNat)).t.slots ((q.a).toNat)).th = 0))), (29, .pointer (some ⟨B101, 0, none⟩)), (30, .int .i64 q.kind), (31, .slice a ms.length c), (32, .pointer (some ⟨B180, 0, none⟩)), (33, .int .i64 ((rAt (mAt ms ((q.run - 1).toNat)).t.slots ((q.a).toNat)).th)), (34, .int .i64 (((rAt (mAt ms ((q.run - 1).toNat)).t.slots ((q.a).toNat)).th) - 1)), (35, .pointer (some ⟨b647, o649, none⟩)), (36, .pointer (some ⟨b647, o649, none⟩)), (37, .int .i64 ((mAt ms ((((rAt (mAt ms ((q.run - 1).toNat)).t.slots ((q.a).toNat)).th) - 1).toNat)).t.kind))]) (fun w' => w327.grownBy w' none) mixed_ (by kernel_rfl) (grown_drew _) ?_ ?_
         ·
          refine yll_cons rfl (fun w661 hi662 => ?_) ?_
          ·
           have hb663 := low0 hb328 hi662
           refine wpo_fieldAddr (o' := 0) fo_29_0 e318 rfl rfl ?_
           exact wpo_nil ⟨rfl, hi662⟩
          refine yll_cons rfl (fun w664 hi665 => ?_) ?_
          ·
           have hb666 := low0 hb328 hi665
           have k667 := ((hS320.blk.grown0 hg326).grown0 hi665)
           refine wpo_load1 (v := .int .i64 ((rAt (mAt ms ((q.run - 1).toNat)).t.slots ((q.a).toNat)).th)) ot_3 rfl (k667.cell rfl) rfl ?_
           exact wpo_nil ⟨rfl, hi665⟩
          refine yll_cons rfl (fun w668 hi669 => ?_) ?_
          ·
           have hb670 := low0 hb328 hi669
           refine wpo_eql (q := decide ((rAt (mAt ms ((q.run - 1).toNat)).t.slots ((q.a).toNat)).th = 0)) rfl rfl rfl rfl ?_
           exact wpo_nil ⟨rfl, hi669⟩
          refine yll_cons rfl (fun w671 hi672 => ?_) ?_
          ·
           have hb673 := low0 hb328 hi672
           refine wpo_move (v := .bool (decide ((rAt (mAt ms ((q.run - 1).toNat)).t.slots ((q.a).toNat)).th = 0))) rfl rfl ?_
           exact wpo_nil ⟨rfl, hi672⟩
          refine yll_cons rfl (fun w674 hi675 => ?_) ?_
          ·
           have hb676 := low0 hb328 hi675
           refine wpo_run rfl rfl rfl h347 ?_
           refine wpo_fieldAddr (o' := 0) fo_76_0 e304 rfl rfl ?_
           exact wpo_nil ⟨rfl, hi675⟩
          refine yll_cons rfl (fun w677 hi678 => ?_) ?_
          ·
           have hb679 := low0 hb328 hi678
           refine wpo_run rfl rfl rfl h347 ?_
           have k680 := ((k322.grown0 hg326).grown0 hi678)
           refine wpo_load1 (v := .int .i64 q.kind) ot_3 rfl (k680.cell rfl) rfl ?_
           exact wpo_nil ⟨rfl, hi678⟩
          refine yll_cons rfl (fun w681 hi682 => ?_) ?_
          ·
           have hb683 := low0 hb328 hi682
           refine wpo_run rfl rfl rfl h347 ?_
           refine wpo_move (v := .slice a ms.length c) e303 rfl ?_
           exact wpo_nil ⟨rfl, hi682⟩
          refine yll_cons rfl (fun w684 hi685 => ?_) ?_
          ·
           have hb686 := low0 hb328 hi685
           refine wpo_run rfl rfl rfl h347 ?_
           refine wpo_fieldAddr (o' := 0) fo_29_0 e318 rfl rfl ?_
           exact wpo_nil ⟨rfl, hi685⟩
          refine yll_cons rfl (fun w687 hi688 => ?_) ?_
          ·
           have hb689 := low0 hb328 hi688
           refine wpo_run rfl rfl rfl h347 ?_
           have k690 := ((hS320.blk.grown0 hg326).grown0 hi688)
           refine wpo_load1 (v := .int .i64 ((rAt (mAt ms ((q.run - 1).toNat)).t.slots ((q.a).toNat)).th)) ot_3 rfl (k690.cell rfl) rfl ?_
           exact wpo_nil ⟨rfl, hi688⟩
          refine yll_cons rfl (fun w691 hi692 => ?_) ?_
          ·
           have hb693 := low0 hb328 hi692
           refine wpo_run rfl rfl rfl h347 ?_
           refine wpo_sub (c := ((rAt (mAt ms ((q.run - 1).toNat)).t.slots ((q.a).toNat)).th) - 1) rfl rfl (by omega) (by omega) (by omega) rfl ?_
           exact wpo_nil ⟨rfl, hi692⟩
          refine yll_cons rfl (fun w694 hi695 => ?_) ?_
          ·
           have hb696 := low0 hb328 hi695
           refine wpo_run rfl rfl rfl h347 ?_
           refine wpo_indexE es_54 rfl rfl ha650 ho651 (by omega) (by omega) rfl ?_
           exact wpo_nil ⟨rfl, hi695⟩
          refine yll_cons rfl (fun w697 hi698 => ?_) ?_
          ·
           have hb699 := low0 hb328 hi698
           refine wpo_run rfl rfl rfl h347 ?_
           refine wpo_fieldAddr (o' := o649) fo_45_0 rfl rfl rfl ?_
           exact wpo_nil ⟨rfl, hi698⟩
          refine yll_cons rfl (fun w700 hi701 => ?_) ?_
          ·
           have hb702 := low0 hb328 hi701
           refine wpo_run rfl rfl rfl h347 ?_
           refine wpo_load1 (v := .int .i64 ((mAt ms ((((rAt (mAt ms ((q.run - 1).toNat)).t.slots ((q.a).toNat)).th) - 1).toNat)).t.kind)) ot_3 rfl ((range_low hr652 hi701) 0 _ rfl) rfl ?_
           exact wpo_nil ⟨rfl, hi701⟩
          exact yll_nil
         ·
          intro w703 hi704
          have hb705 := low0 hb328 hi704
          refine wpo_run rfl rfl rfl h347 ?_
          refine wpo_call (vs := [.int .i64 q.kind, .int .i64 ((mAt ms ((((rAt (mAt ms ((q.run - 1).toNat)).t.slots ((q.a).toNat)).th) - 1).toNat)).t.kind)]) gf_118 (args_cons rfl (args_cons rfl args_nil)) rfl (l11Kind_c q.kind ((mAt ms ((((rAt (mAt ms ((q.run - 1).toNat)).t.slots ((q.a).toNat)).th) - 1).toNat)).t.kind) _) ?_
          rintro _ w706 ⟨rfl, hg707⟩
          have hb708 := low0 hb705 hg707
          refine wpo_run rfl rfl rfl h347 ?_
          refine wpo_not (b' := !kindFor q.kind ((mAt ms ((((rAt (mAt ms ((q.run - 1).toNat)).t.slots ((q.a).toNat)).th) - 1).toNat)).t.kind)) rfl rfl rfl ?_
          refine wpo_pickf (v := .bool (!kindFor q.kind ((mAt ms ((((rAt (mAt ms ((q.run - 1).toNat)).t.slots ((q.a).toNat)).th) - 1).toNat)).t.kind))) rfl h347 rfl rfl ?_
          refine wpo_move (v := .bool (!kindFor q.kind ((mAt ms ((((rAt (mAt ms ((q.run - 1).toNat)).t.slots ((q.a).toNat)).th) - 1).toNat)).t.kind))) rfl rfl ?_
          refine wpo_run rfl rfl rfl h410 ?_
          refine wpo_move (v := .slice (some ⟨B323, 0, none⟩) 4 4) rfl rfl ?_
          refine wpo_run rfl rfl rfl h410 ?_
          refine wpo_indexAddr (o' := 0) es_145 rfl rfl (by omega) (by omega) rfl rfl ?_
          refine wpo_run rfl rfl rfl h410 ?_
          have k709 := ((k325.grown0 hi704).grown0 hg707)
          refine wpo_load1 (v := .bool (need0 q.kind)) ot_4 rfl (k709.cell rfl) rfl ?_
          refine wpo_run rfl rfl rfl h410 ?_
          refine wpo_move (v := .bool (need0 q.kind)) rfl rfl ?_
          refine wpo_run rfl rfl rfl h506 ?_
          refine wpo_fieldAddr (o' := 2) fo_29_2 e318 rfl rfl ?_
          refine wpo_run rfl rfl rfl h506 ?_
          have k710 := (((hS320.blk.grown0 hg326).grown0 hi704).grown0 hg707)
          refine wpo_load1 (v := .bool ((rAt (mAt ms ((q.run - 1).toNat)).t.slots ((q.a).toNat)).rd)) ot_4 rfl (k710.cell rfl) rfl ?_
          refine wpo_run rfl rfl rfl h506 ?_
          refine wpo_not (b' := !(rAt (mAt ms ((q.run - 1).toNat)).t.slots ((q.a).toNat)).rd) rfl rfl rfl ?_
          refine wpo_run rfl rfl rfl h410 ?_
          refine wpo_pickt (v := .bool (!(rAt (mAt ms ((q.run - 1).toNat)).t.slots ((q.a).toNat)).rd)) rfl h506 rfl rfl ?_
          refine wpo_pickf (v := .bool (!(rAt (mAt ms ((q.run - 1).toNat)).t.slots ((q.a).toNat)).rd)) rfl h410 rfl rfl ?_
          refine wpo_move (v := .bool (!(rAt (mAt ms ((q.run - 1).toNat)).t.slots ((q.a).toNat)).rd)) rfl rfl ?_
          refine wpo_run rfl rfl rfl h523 ?_
          refine wpo_move (v := .slice (some ⟨B323, 0, none⟩) 4 4) rfl rfl ?_
          refine wpo_run rfl rfl rfl h523 ?_
          refine wpo_indexAddr (o' := 1) es_145 rfl rfl (by omega) (by omega) rfl rfl ?_
          refine wpo_run rfl rfl rfl h523 ?_
          refine wpo_load1 (v := .bool (need1 q.kind)) ot_4 rfl (k709.cell rfl) rfl ?_
          refine wpo_run rfl rfl rfl h523 ?_
          refine wpo_move (v := .bool (need1 q.kind)) rfl rfl ?_
          refine wpo_run rfl rfl rfl h626 ?_
          refine wpo_fieldAddr (o' := 3) fo_29_3 e318 rfl rfl ?_
          refine wpo_run rfl rfl rfl h626 ?_
          refine wpo_load1 (v := .bool ((rAt (mAt ms ((q.run - 1).toNat)).t.slots ((q.a).toNat)).wr)) ot_4 rfl (k710.cell rfl) rfl ?_
          refine wpo_run rfl rfl rfl h626 ?_
          refine wpo_not (b' := !(rAt (mAt ms ((q.run - 1).toNat)).t.slots ((q.a).toNat)).wr) rfl rfl rfl ?_
          refine wpo_run rfl rfl rfl h523 ?_
          refine wpo_pickt (v := .bool (!(rAt (mAt ms ((q.run - 1).toNat)).t.slots ((q.a).toNat)).wr)) rfl h626 rfl rfl ?_
          refine wpo_pickf (v := .bool (!(rAt (mAt ms ((q.run - 1).toNat)).t.slots ((q.a).toNat)).wr)) rfl h523 rfl rfl ?_
          exact wpo_nil (thn_n ⟨⟨e303, e304, e305, e318, rfl, (congrArg Value.bool (by first | (simp only [h105, h347, h410, h490, h506, h523, h609, h626, hT, b0, b1, b2, b3, b4, b5, b6, b7, b8, b9]; done) | simp [h105, h347, h410, h490, h506, h523, h609, h626, hT]))⟩, (grown_trans hi704 hg707)⟩)
        ·
         obtain ⟨b731, q732, o733, ha734, ho735, hr736⟩ := SlAt.at (TabAt.low ht hb328).1 (map_get (mAt_get (show (((rAt (mAt ms ((q.run - 1).toNat)).t.slots ((q.a).toNat)).th) - 1).toNat < ms.length by omega)))
         have hle737 := TabLen.at hlen (mAt_get (show (((rAt (mAt ms ((q.run - 1).toNat)).t.slots ((q.a).toNat)).th) - 1).toNat < ms.length by omega))
         refine wpf_draw (m := 13) (vals := [(25, .pointer (some ⟨B180, 0, none⟩)), (26, .int .i64 ((rAt (mAt ms ((q.run - 1).toNat)).t.slots ((q.a).toNat)).th)), (27, .bool (decide ((rAt (mAt ms ((q.run - 1).toNat)).t.slots ((q.a).toNat)).th = 0))), (28, .bool (decide ((rAt (mAt ms ((q.run - 1).toNat)).t.slots ((q.a).toNat)).th = 0))), (29, .pointer (some ⟨B101, 0, none⟩)), (30, .int .i64 q.kind), (31, .slice a ms.length c), (32, .pointer (some ⟨B180, 0, none⟩)), (33, .int .i64 ((rAt (mAt ms ((q.run - 1).toNat)).t.slots ((q.a).toNat)).th)), (34, .int .i64 (((rAt (mAt ms ((q.run - 1).toNat)).t.slots ((q.a).toNat)).th) - 1)), (35, .pointer (some ⟨b731, o733, none⟩)), (36, .pointer (some ⟨b731, o733, none⟩)), (37, .int .i64 ((mAt ms ((((rAt (mAt ms ((q.run - 1).toNat)).t.slots ((q.a).toNat)).th) - 1).toNat)).t.kind))]) (fun w' => w327.grownBy w' none) mixed_ (by kernel_rfl) (grown_drew _) ?_ ?_
         ·
          refine yll_cons rfl (fun w745 hi746 => ?_) ?_
          ·
           have hb747 := low0 hb328 hi746
           refine wpo_fieldAddr (o' := 0) fo_29_0 e318 rfl rfl ?_
           exact wpo_nil ⟨rfl, hi746⟩
          refine yll_cons rfl (fun w748 hi749 => ?_) ?_
          ·
           have hb750 := low0 hb328 hi749
           have k751 := ((hS320.blk.grown0 hg326).grown0 hi749)
           refine wpo_load1 (v := .int .i64 ((rAt (mAt ms ((q.run - 1).toNat)).t.slots ((q.a).toNat)).th)) ot_3 rfl (k751.cell rfl) rfl ?_
           exact wpo_nil ⟨rfl, hi749⟩
          refine yll_cons rfl (fun w752 hi753 => ?_) ?_
          ·
           have hb754 := low0 hb328 hi753
           refine wpo_eql (q := decide ((rAt (mAt ms ((q.run - 1).toNat)).t.slots ((q.a).toNat)).th = 0)) rfl rfl rfl rfl ?_
           exact wpo_nil ⟨rfl, hi753⟩
          refine yll_cons rfl (fun w755 hi756 => ?_) ?_
          ·
           have hb757 := low0 hb328 hi756
           refine wpo_move (v := .bool (decide ((rAt (mAt ms ((q.run - 1).toNat)).t.slots ((q.a).toNat)).th = 0))) rfl rfl ?_
           exact wpo_nil ⟨rfl, hi756⟩
          refine yll_cons rfl (fun w758 hi759 => ?_) ?_
          ·
           have hb760 := low0 hb328 hi759
           refine wpo_run rfl rfl rfl h347 ?_
           refine wpo_fieldAddr (o' := 0) fo_76_0 e304 rfl rfl ?_
           exact wpo_nil ⟨rfl, hi759⟩
          refine yll_cons rfl (fun w761 hi762 => ?_) ?_
          ·
           have hb763 := low0 hb328 hi762
           refine wpo_run rfl rfl rfl h347 ?_
           have k764 := ((k322.grown0 hg326).grown0 hi762)
           refine wpo_load1 (v := .int .i64 q.kind) ot_3 rfl (k764.cell rfl) rfl ?_
           exact wpo_nil ⟨rfl, hi762⟩
          refine yll_cons rfl (fun w765 hi766 => ?_) ?_
          ·
           have hb767 := low0 hb328 hi766
           refine wpo_run rfl rfl rfl h347 ?_
           refine wpo_move (v := .slice a ms.length c) e303 rfl ?_
           exact wpo_nil ⟨rfl, hi766⟩
          refine yll_cons rfl (fun w768 hi769 => ?_) ?_
          ·
           have hb770 := low0 hb328 hi769
           refine wpo_run rfl rfl rfl h347 ?_
           refine wpo_fieldAddr (o' := 0) fo_29_0 e318 rfl rfl ?_
           exact wpo_nil ⟨rfl, hi769⟩
          refine yll_cons rfl (fun w771 hi772 => ?_) ?_
          ·
           have hb773 := low0 hb328 hi772
           refine wpo_run rfl rfl rfl h347 ?_
           have k774 := ((hS320.blk.grown0 hg326).grown0 hi772)
           refine wpo_load1 (v := .int .i64 ((rAt (mAt ms ((q.run - 1).toNat)).t.slots ((q.a).toNat)).th)) ot_3 rfl (k774.cell rfl) rfl ?_
           exact wpo_nil ⟨rfl, hi772⟩
          refine yll_cons rfl (fun w775 hi776 => ?_) ?_
          ·
           have hb777 := low0 hb328 hi776
           refine wpo_run rfl rfl rfl h347 ?_
           refine wpo_sub (c := ((rAt (mAt ms ((q.run - 1).toNat)).t.slots ((q.a).toNat)).th) - 1) rfl rfl (by omega) (by omega) (by omega) rfl ?_
           exact wpo_nil ⟨rfl, hi776⟩
          refine yll_cons rfl (fun w778 hi779 => ?_) ?_
          ·
           have hb780 := low0 hb328 hi779
           refine wpo_run rfl rfl rfl h347 ?_
           refine wpo_indexE es_54 rfl rfl ha734 ho735 (by omega) (by omega) rfl ?_
           exact wpo_nil ⟨rfl, hi779⟩
          refine yll_cons rfl (fun w781 hi782 => ?_) ?_
          ·
           have hb783 := low0 hb328 hi782
           refine wpo_run rfl rfl rfl h347 ?_
           refine wpo_fieldAddr (o' := o733) fo_45_0 rfl rfl rfl ?_
           exact wpo_nil ⟨rfl, hi782⟩
          refine yll_cons rfl (fun w784 hi785 => ?_) ?_
          ·
           have hb786 := low0 hb328 hi785
           refine wpo_run rfl rfl rfl h347 ?_
           refine wpo_load1 (v := .int .i64 ((mAt ms ((((rAt (mAt ms ((q.run - 1).toNat)).t.slots ((q.a).toNat)).th) - 1).toNat)).t.kind)) ot_3 rfl ((range_low hr736 hi785) 0 _ rfl) rfl ?_
           exact wpo_nil ⟨rfl, hi785⟩
          exact yll_nil
         ·
          intro w787 hi788
          have hb789 := low0 hb328 hi788
          refine wpo_run rfl rfl rfl h347 ?_
          refine wpo_call (vs := [.int .i64 q.kind, .int .i64 ((mAt ms ((((rAt (mAt ms ((q.run - 1).toNat)).t.slots ((q.a).toNat)).th) - 1).toNat)).t.kind)]) gf_118 (args_cons rfl (args_cons rfl args_nil)) rfl (l11Kind_c q.kind ((mAt ms ((((rAt (mAt ms ((q.run - 1).toNat)).t.slots ((q.a).toNat)).th) - 1).toNat)).t.kind) _) ?_
          rintro _ w790 ⟨rfl, hg791⟩
          have hb792 := low0 hb789 hg791
          refine wpo_run rfl rfl rfl h347 ?_
          refine wpo_not (b' := !kindFor q.kind ((mAt ms ((((rAt (mAt ms ((q.run - 1).toNat)).t.slots ((q.a).toNat)).th) - 1).toNat)).t.kind)) rfl rfl rfl ?_
          refine wpo_pickf (v := .bool (!kindFor q.kind ((mAt ms ((((rAt (mAt ms ((q.run - 1).toNat)).t.slots ((q.a).toNat)).th) - 1).toNat)).t.kind))) rfl h347 rfl rfl ?_
          refine wpo_move (v := .bool (!kindFor q.kind ((mAt ms ((((rAt (mAt ms ((q.run - 1).toNat)).t.slots ((q.a).toNat)).th) - 1).toNat)).t.kind))) rfl rfl ?_
          refine wpo_run rfl rfl rfl h410 ?_
          refine wpo_move (v := .slice (some ⟨B323, 0, none⟩) 4 4) rfl rfl ?_
          refine wpo_run rfl rfl rfl h410 ?_
          refine wpo_indexAddr (o' := 0) es_145 rfl rfl (by omega) (by omega) rfl rfl ?_
          refine wpo_run rfl rfl rfl h410 ?_
          have k793 := ((k325.grown0 hi788).grown0 hg791)
          refine wpo_load1 (v := .bool (need0 q.kind)) ot_4 rfl (k793.cell rfl) rfl ?_
          refine wpo_run rfl rfl rfl h410 ?_
          refine wpo_move (v := .bool (need0 q.kind)) rfl rfl ?_
          refine wpo_run rfl rfl rfl h506 ?_
          refine wpo_fieldAddr (o' := 2) fo_29_2 e318 rfl rfl ?_
          refine wpo_run rfl rfl rfl h506 ?_
          have k794 := (((hS320.blk.grown0 hg326).grown0 hi788).grown0 hg791)
          refine wpo_load1 (v := .bool ((rAt (mAt ms ((q.run - 1).toNat)).t.slots ((q.a).toNat)).rd)) ot_4 rfl (k794.cell rfl) rfl ?_
          refine wpo_run rfl rfl rfl h506 ?_
          refine wpo_not (b' := !(rAt (mAt ms ((q.run - 1).toNat)).t.slots ((q.a).toNat)).rd) rfl rfl rfl ?_
          refine wpo_run rfl rfl rfl h410 ?_
          refine wpo_pickt (v := .bool (!(rAt (mAt ms ((q.run - 1).toNat)).t.slots ((q.a).toNat)).rd)) rfl h506 rfl rfl ?_
          refine wpo_pickf (v := .bool (!(rAt (mAt ms ((q.run - 1).toNat)).t.slots ((q.a).toNat)).rd)) rfl h410 rfl rfl ?_
          refine wpo_move (v := .bool (!(rAt (mAt ms ((q.run - 1).toNat)).t.slots ((q.a).toNat)).rd)) rfl rfl ?_
          refine wpo_run rfl rfl rfl h523 ?_
          refine wpo_move (v := .slice (some ⟨B323, 0, none⟩) 4 4) rfl rfl ?_
          refine wpo_run rfl rfl rfl h523 ?_
          refine wpo_indexAddr (o' := 1) es_145 rfl rfl (by omega) (by omega) rfl rfl ?_
          refine wpo_run rfl rfl rfl h523 ?_
          refine wpo_load1 (v := .bool (need1 q.kind)) ot_4 rfl (k793.cell rfl) rfl ?_
          refine wpo_run rfl rfl rfl h523 ?_
          refine wpo_move (v := .bool (need1 q.kind)) rfl rfl ?_
          iterate 3 refine wpo_pass rfl rfl rfl h626 rfl ?_
          refine wpo_run rfl rfl rfl h523 ?_
          refine wpo_pickf (v := .bool false) rfl h626 rfl rfl ?_
          refine wpo_pickf (v := .bool false) rfl h523 rfl rfl ?_
          exact wpo_nil (thn_n ⟨⟨e303, e304, e305, e318, rfl, (congrArg Value.bool (by first | (simp only [h105, h347, h410, h490, h506, h523, h609, h626, hT, b0, b1, b2, b3, b4, b5, b6, b7, b8, b9]; done) | simp [h105, h347, h410, h490, h506, h523, h609, h626, hT]))⟩, (grown_trans hi788 hg791)⟩)
      ·
       rcases bcases (need1 q.kind) with h810 | h810
       ·
        obtain ⟨b831, q832, o833, ha834, ho835, hr836⟩ := SlAt.at (TabAt.low ht hb328).1 (map_get (mAt_get (show (((rAt (mAt ms ((q.run - 1).toNat)).t.slots ((q.a).toNat)).th) - 1).toNat < ms.length by omega)))
        have hle837 := TabLen.at hlen (mAt_get (show (((rAt (mAt ms ((q.run - 1).toNat)).t.slots ((q.a).toNat)).th) - 1).toNat < ms.length by omega))
        refine wpf_draw (m := 13) (vals := [(25, .pointer (some ⟨B180, 0, none⟩)), (26, .int .i64 ((rAt (mAt ms ((q.run - 1).toNat)).t.slots ((q.a).toNat)).th)), (27, .bool (decide ((rAt (mAt ms ((q.run - 1).toNat)).t.slots ((q.a).toNat)).th = 0))), (28, .bool (decide ((rAt (mAt ms ((q.run - 1).toNat)).t.slots ((q.a).toNat)).th = 0))), (29, .pointer (some ⟨B101, 0, none⟩)), (30, .int .i64 q.kind), (31, .slice a ms.length c), (32, .pointer (some ⟨B180, 0, none⟩)), (33, .int .i64 ((rAt (mAt ms ((q.run - 1).toNat)).t.slots ((q.a).toNat)).th)), (34, .int .i64 (((rAt (mAt ms ((q.run - 1).toNat)).t.slots ((q.a).toNat)).th) - 1)), (35, .pointer (some ⟨b831, o833, none⟩)), (36, .pointer (some ⟨b831, o833, none⟩)), (37, .int .i64 ((mAt ms ((((rAt (mAt ms ((q.run - 1).toNat)).t.slots ((q.a).toNat)).th) - 1).toNat)).t.kind))]) (fun w' => w327.grownBy w' none) mixed_ (by kernel_rfl) (grown_drew _) ?_ ?_
        ·
         refine yll_cons rfl (fun w845 hi846 => ?_) ?_
         ·
          have hb847 := low0 hb328 hi846
          refine wpo_fieldAddr (o' := 0) fo_29_0 e318 rfl rfl ?_
          exact wpo_nil ⟨rfl, hi846⟩
         refine yll_cons rfl (fun w848 hi849 => ?_) ?_
         ·
          have hb850 := low0 hb328 hi849
          have k851 := ((hS320.blk.grown0 hg326).grown0 hi849)
          refine wpo_load1 (v := .int .i64 ((rAt (mAt ms ((q.run - 1).toNat)).t.slots ((q.a).toNat)).th)) ot_3 rfl (k851.cell rfl) rfl ?_
          exact wpo_nil ⟨rfl, hi849⟩
         refine yll_cons rfl (fun w852 hi853 => ?_) ?_
         ·
          have hb854 := low0 hb328 hi853
          refine wpo_eql (q := decide ((rAt (mAt ms ((q.run - 1).toNat)).t.slots ((q.a).toNat)).th = 0)) rfl rfl rfl rfl ?_
          exact wpo_nil ⟨rfl, hi853⟩
         refine yll_cons rfl (fun w855 hi856 => ?_) ?_
         ·
          have hb857 := low0 hb328 hi856
          refine wpo_move (v := .bool (decide ((rAt (mAt ms ((q.run - 1).toNat)).t.slots ((q.a).toNat)).th = 0))) rfl rfl ?_
          exact wpo_nil ⟨rfl, hi856⟩
         refine yll_cons rfl (fun w858 hi859 => ?_) ?_
         ·
          have hb860 := low0 hb328 hi859
          refine wpo_run rfl rfl rfl h347 ?_
          refine wpo_fieldAddr (o' := 0) fo_76_0 e304 rfl rfl ?_
          exact wpo_nil ⟨rfl, hi859⟩
         refine yll_cons rfl (fun w861 hi862 => ?_) ?_
         ·
          have hb863 := low0 hb328 hi862
          refine wpo_run rfl rfl rfl h347 ?_
          have k864 := ((k322.grown0 hg326).grown0 hi862)
          refine wpo_load1 (v := .int .i64 q.kind) ot_3 rfl (k864.cell rfl) rfl ?_
          exact wpo_nil ⟨rfl, hi862⟩
         refine yll_cons rfl (fun w865 hi866 => ?_) ?_
         ·
          have hb867 := low0 hb328 hi866
          refine wpo_run rfl rfl rfl h347 ?_
          refine wpo_move (v := .slice a ms.length c) e303 rfl ?_
          exact wpo_nil ⟨rfl, hi866⟩
         refine yll_cons rfl (fun w868 hi869 => ?_) ?_
         ·
          have hb870 := low0 hb328 hi869
          refine wpo_run rfl rfl rfl h347 ?_
          refine wpo_fieldAddr (o' := 0) fo_29_0 e318 rfl rfl ?_
          exact wpo_nil ⟨rfl, hi869⟩
         refine yll_cons rfl (fun w871 hi872 => ?_) ?_
         ·
          have hb873 := low0 hb328 hi872
          refine wpo_run rfl rfl rfl h347 ?_
          have k874 := ((hS320.blk.grown0 hg326).grown0 hi872)
          refine wpo_load1 (v := .int .i64 ((rAt (mAt ms ((q.run - 1).toNat)).t.slots ((q.a).toNat)).th)) ot_3 rfl (k874.cell rfl) rfl ?_
          exact wpo_nil ⟨rfl, hi872⟩
         refine yll_cons rfl (fun w875 hi876 => ?_) ?_
         ·
          have hb877 := low0 hb328 hi876
          refine wpo_run rfl rfl rfl h347 ?_
          refine wpo_sub (c := ((rAt (mAt ms ((q.run - 1).toNat)).t.slots ((q.a).toNat)).th) - 1) rfl rfl (by omega) (by omega) (by omega) rfl ?_
          exact wpo_nil ⟨rfl, hi876⟩
         refine yll_cons rfl (fun w878 hi879 => ?_) ?_
         ·
          have hb880 := low0 hb328 hi879
          refine wpo_run rfl rfl rfl h347 ?_
          refine wpo_indexE es_54 rfl rfl ha834 ho835 (by omega) (by omega) rfl ?_
          exact wpo_nil ⟨rfl, hi879⟩
         refine yll_cons rfl (fun w881 hi882 => ?_) ?_
         ·
          have hb883 := low0 hb328 hi882
          refine wpo_run rfl rfl rfl h347 ?_
          refine wpo_fieldAddr (o' := o833) fo_45_0 rfl rfl rfl ?_
          exact wpo_nil ⟨rfl, hi882⟩
         refine yll_cons rfl (fun w884 hi885 => ?_) ?_
         ·
          have hb886 := low0 hb328 hi885
          refine wpo_run rfl rfl rfl h347 ?_
          refine wpo_load1 (v := .int .i64 ((mAt ms ((((rAt (mAt ms ((q.run - 1).toNat)).t.slots ((q.a).toNat)).th) - 1).toNat)).t.kind)) ot_3 rfl ((range_low hr836 hi885) 0 _ rfl) rfl ?_
          exact wpo_nil ⟨rfl, hi885⟩
         exact yll_nil
        ·
         intro w887 hi888
         have hb889 := low0 hb328 hi888
         refine wpo_run rfl rfl rfl h347 ?_
         refine wpo_call (vs := [.int .i64 q.kind, .int .i64 ((mAt ms ((((rAt (mAt ms ((q.run - 1).toNat)).t.slots ((q.a).toNat)).th) - 1).toNat)).t.kind)]) gf_118 (args_cons rfl (args_cons rfl args_nil)) rfl (l11Kind_c q.kind ((mAt ms ((((rAt (mAt ms ((q.run - 1).toNat)).t.slots ((q.a).toNat)).th) - 1).toNat)).t.kind) _) ?_
         rintro _ w890 ⟨rfl, hg891⟩
         have hb892 := low0 hb889 hg891
         refine wpo_run rfl rfl rfl h347 ?_
         refine wpo_not (b' := !kindFor q.kind ((mAt ms ((((rAt (mAt ms ((q.run - 1).toNat)).t.slots ((q.a).toNat)).th) - 1).toNat)).t.kind)) rfl rfl rfl ?_
         refine wpo_pickf (v := .bool (!kindFor q.kind ((mAt ms ((((rAt (mAt ms ((q.run - 1).toNat)).t.slots ((q.a).toNat)).th) - 1).toNat)).t.kind))) rfl h347 rfl rfl ?_
         refine wpo_move (v := .bool (!kindFor q.kind ((mAt ms ((((rAt (mAt ms ((q.run - 1).toNat)).t.slots ((q.a).toNat)).th) - 1).toNat)).t.kind))) rfl rfl ?_
         refine wpo_run rfl rfl rfl h410 ?_
         refine wpo_move (v := .slice (some ⟨B323, 0, none⟩) 4 4) rfl rfl ?_
         refine wpo_run rfl rfl rfl h410 ?_
         refine wpo_indexAddr (o' := 0) es_145 rfl rfl (by omega) (by omega) rfl rfl ?_
         refine wpo_run rfl rfl rfl h410 ?_
         have k893 := ((k325.grown0 hi888).grown0 hg891)
         refine wpo_load1 (v := .bool (need0 q.kind)) ot_4 rfl (k893.cell rfl) rfl ?_
         refine wpo_run rfl rfl rfl h410 ?_
         refine wpo_move (v := .bool (need0 q.kind)) rfl rfl ?_
         iterate 3 refine wpo_pass rfl rfl rfl h506 rfl ?_
         refine wpo_run rfl rfl rfl h410 ?_
         refine wpo_pickf (v := .bool false) rfl h506 rfl rfl ?_
         refine wpo_pickf (v := .bool false) rfl h410 rfl rfl ?_
         refine wpo_move (v := .bool false) rfl rfl ?_
         refine wpo_run rfl rfl rfl rfl ?_
         refine wpo_move (v := .slice (some ⟨B323, 0, none⟩) 4 4) rfl rfl ?_
         refine wpo_run rfl rfl rfl rfl ?_
         refine wpo_indexAddr (o' := 1) es_145 rfl rfl (by omega) (by omega) rfl rfl ?_
         refine wpo_run rfl rfl rfl rfl ?_
         refine wpo_load1 (v := .bool (need1 q.kind)) ot_4 rfl (k893.cell rfl) rfl ?_
         refine wpo_run rfl rfl rfl rfl ?_
         refine wpo_move (v := .bool (need1 q.kind)) rfl rfl ?_
         refine wpo_run rfl rfl rfl h810 ?_
         refine wpo_fieldAddr (o' := 3) fo_29_3 e318 rfl rfl ?_
         refine wpo_run rfl rfl rfl h810 ?_
         have k894 := (((hS320.blk.grown0 hg326).grown0 hi888).grown0 hg891)
         refine wpo_load1 (v := .bool ((rAt (mAt ms ((q.run - 1).toNat)).t.slots ((q.a).toNat)).wr)) ot_4 rfl (k894.cell rfl) rfl ?_
         refine wpo_run rfl rfl rfl h810 ?_
         refine wpo_not (b' := !(rAt (mAt ms ((q.run - 1).toNat)).t.slots ((q.a).toNat)).wr) rfl rfl rfl ?_
         refine wpo_run rfl rfl rfl rfl ?_
         refine wpo_pickt (v := .bool (!(rAt (mAt ms ((q.run - 1).toNat)).t.slots ((q.a).toNat)).wr)) rfl h810 rfl rfl ?_
         refine wpo_pickf (v := .bool (!(rAt (mAt ms ((q.run - 1).toNat)).t.slots ((q.a).toNat)).wr)) rfl rfl rfl rfl ?_
         exact wpo_nil (thn_n ⟨⟨e303, e304, e305, e318, rfl, (congrArg Value.bool (by first | (simp only [h105, h347, h410, h490, h506, h810, hT, b0, b1, b2, b3, b4, b5, b6, b7, b8, b9]; done) | simp [h105, h347, h410, h490, h506, h810, hT]))⟩, (grown_trans hi888 hg891)⟩)
       ·
        obtain ⟨b914, q915, o916, ha917, ho918, hr919⟩ := SlAt.at (TabAt.low ht hb328).1 (map_get (mAt_get (show (((rAt (mAt ms ((q.run - 1).toNat)).t.slots ((q.a).toNat)).th) - 1).toNat < ms.length by omega)))
        have hle920 := TabLen.at hlen (mAt_get (show (((rAt (mAt ms ((q.run - 1).toNat)).t.slots ((q.a).toNat)).th) - 1).toNat < ms.length by omega))
        refine wpf_draw (m := 13) (vals := [(25, .pointer (some ⟨B180, 0, none⟩)), (26, .int .i64 ((rAt (mAt ms ((q.run - 1).toNat)).t.slots ((q.a).toNat)).th)), (27, .bool (decide ((rAt (mAt ms ((q.run - 1).toNat)).t.slots ((q.a).toNat)).th = 0))), (28, .bool (decide ((rAt (mAt ms ((q.run - 1).toNat)).t.slots ((q.a).toNat)).th = 0))), (29, .pointer (some ⟨B101, 0, none⟩)), (30, .int .i64 q.kind), (31, .slice a ms.length c), (32, .pointer (some ⟨B180, 0, none⟩)), (33, .int .i64 ((rAt (mAt ms ((q.run - 1).toNat)).t.slots ((q.a).toNat)).th)), (34, .int .i64 (((rAt (mAt ms ((q.run - 1).toNat)).t.slots ((q.a).toNat)).th) - 1)), (35, .pointer (some ⟨b914, o916, none⟩)), (36, .pointer (some ⟨b914, o916, none⟩)), (37, .int .i64 ((mAt ms ((((rAt (mAt ms ((q.run - 1).toNat)).t.slots ((q.a).toNat)).th) - 1).toNat)).t.kind))]) (fun w' => w327.grownBy w' none) mixed_ (by kernel_rfl) (grown_drew _) ?_ ?_
        ·
         refine yll_cons rfl (fun w927 hi928 => ?_) ?_
         ·
          have hb929 := low0 hb328 hi928
          refine wpo_fieldAddr (o' := 0) fo_29_0 e318 rfl rfl ?_
          exact wpo_nil ⟨rfl, hi928⟩
         refine yll_cons rfl (fun w930 hi931 => ?_) ?_
         ·
          have hb932 := low0 hb328 hi931
          have k933 := ((hS320.blk.grown0 hg326).grown0 hi931)
          refine wpo_load1 (v := .int .i64 ((rAt (mAt ms ((q.run - 1).toNat)).t.slots ((q.a).toNat)).th)) ot_3 rfl (k933.cell rfl) rfl ?_
          exact wpo_nil ⟨rfl, hi931⟩
         refine yll_cons rfl (fun w934 hi935 => ?_) ?_
         ·
          have hb936 := low0 hb328 hi935
          refine wpo_eql (q := decide ((rAt (mAt ms ((q.run - 1).toNat)).t.slots ((q.a).toNat)).th = 0)) rfl rfl rfl rfl ?_
          exact wpo_nil ⟨rfl, hi935⟩
         refine yll_cons rfl (fun w937 hi938 => ?_) ?_
         ·
          have hb939 := low0 hb328 hi938
          refine wpo_move (v := .bool (decide ((rAt (mAt ms ((q.run - 1).toNat)).t.slots ((q.a).toNat)).th = 0))) rfl rfl ?_
          exact wpo_nil ⟨rfl, hi938⟩
         refine yll_cons rfl (fun w940 hi941 => ?_) ?_
         ·
          have hb942 := low0 hb328 hi941
          refine wpo_run rfl rfl rfl h347 ?_
          refine wpo_fieldAddr (o' := 0) fo_76_0 e304 rfl rfl ?_
          exact wpo_nil ⟨rfl, hi941⟩
         refine yll_cons rfl (fun w943 hi944 => ?_) ?_
         ·
          have hb945 := low0 hb328 hi944
          refine wpo_run rfl rfl rfl h347 ?_
          have k946 := ((k322.grown0 hg326).grown0 hi944)
          refine wpo_load1 (v := .int .i64 q.kind) ot_3 rfl (k946.cell rfl) rfl ?_
          exact wpo_nil ⟨rfl, hi944⟩
         refine yll_cons rfl (fun w947 hi948 => ?_) ?_
         ·
          have hb949 := low0 hb328 hi948
          refine wpo_run rfl rfl rfl h347 ?_
          refine wpo_move (v := .slice a ms.length c) e303 rfl ?_
          exact wpo_nil ⟨rfl, hi948⟩
         refine yll_cons rfl (fun w950 hi951 => ?_) ?_
         ·
          have hb952 := low0 hb328 hi951
          refine wpo_run rfl rfl rfl h347 ?_
          refine wpo_fieldAddr (o' := 0) fo_29_0 e318 rfl rfl ?_
          exact wpo_nil ⟨rfl, hi951⟩
         refine yll_cons rfl (fun w953 hi954 => ?_) ?_
         ·
          have hb955 := low0 hb328 hi954
          refine wpo_run rfl rfl rfl h347 ?_
          have k956 := ((hS320.blk.grown0 hg326).grown0 hi954)
          refine wpo_load1 (v := .int .i64 ((rAt (mAt ms ((q.run - 1).toNat)).t.slots ((q.a).toNat)).th)) ot_3 rfl (k956.cell rfl) rfl ?_
          exact wpo_nil ⟨rfl, hi954⟩
         refine yll_cons rfl (fun w957 hi958 => ?_) ?_
         ·
          have hb959 := low0 hb328 hi958
          refine wpo_run rfl rfl rfl h347 ?_
          refine wpo_sub (c := ((rAt (mAt ms ((q.run - 1).toNat)).t.slots ((q.a).toNat)).th) - 1) rfl rfl (by omega) (by omega) (by omega) rfl ?_
          exact wpo_nil ⟨rfl, hi958⟩
         refine yll_cons rfl (fun w960 hi961 => ?_) ?_
         ·
          have hb962 := low0 hb328 hi961
          refine wpo_run rfl rfl rfl h347 ?_
          refine wpo_indexE es_54 rfl rfl ha917 ho918 (by omega) (by omega) rfl ?_
          exact wpo_nil ⟨rfl, hi961⟩
         refine yll_cons rfl (fun w963 hi964 => ?_) ?_
         ·
          have hb965 := low0 hb328 hi964
          refine wpo_run rfl rfl rfl h347 ?_
          refine wpo_fieldAddr (o' := o916) fo_45_0 rfl rfl rfl ?_
          exact wpo_nil ⟨rfl, hi964⟩
         refine yll_cons rfl (fun w966 hi967 => ?_) ?_
         ·
          have hb968 := low0 hb328 hi967
          refine wpo_run rfl rfl rfl h347 ?_
          refine wpo_load1 (v := .int .i64 ((mAt ms ((((rAt (mAt ms ((q.run - 1).toNat)).t.slots ((q.a).toNat)).th) - 1).toNat)).t.kind)) ot_3 rfl ((range_low hr919 hi967) 0 _ rfl) rfl ?_
          exact wpo_nil ⟨rfl, hi967⟩
         exact yll_nil
        ·
         intro w969 hi970
         have hb971 := low0 hb328 hi970
         refine wpo_run rfl rfl rfl h347 ?_
         refine wpo_call (vs := [.int .i64 q.kind, .int .i64 ((mAt ms ((((rAt (mAt ms ((q.run - 1).toNat)).t.slots ((q.a).toNat)).th) - 1).toNat)).t.kind)]) gf_118 (args_cons rfl (args_cons rfl args_nil)) rfl (l11Kind_c q.kind ((mAt ms ((((rAt (mAt ms ((q.run - 1).toNat)).t.slots ((q.a).toNat)).th) - 1).toNat)).t.kind) _) ?_
         rintro _ w972 ⟨rfl, hg973⟩
         have hb974 := low0 hb971 hg973
         refine wpo_run rfl rfl rfl h347 ?_
         refine wpo_not (b' := !kindFor q.kind ((mAt ms ((((rAt (mAt ms ((q.run - 1).toNat)).t.slots ((q.a).toNat)).th) - 1).toNat)).t.kind)) rfl rfl rfl ?_
         refine wpo_pickf (v := .bool (!kindFor q.kind ((mAt ms ((((rAt (mAt ms ((q.run - 1).toNat)).t.slots ((q.a).toNat)).th) - 1).toNat)).t.kind))) rfl h347 rfl rfl ?_
         refine wpo_move (v := .bool (!kindFor q.kind ((mAt ms ((((rAt (mAt ms ((q.run - 1).toNat)).t.slots ((q.a).toNat)).th) - 1).toNat)).t.kind))) rfl rfl ?_
         refine wpo_run rfl rfl rfl h410 ?_
         refine wpo_move (v := .slice (some ⟨B323, 0, none⟩) 4 4) rfl rfl ?_
         refine wpo_run rfl rfl rfl h410 ?_
         refine wpo_indexAddr (o' := 0) es_145 rfl rfl (by omega) (by omega) rfl rfl ?_
         refine wpo_run rfl rfl rfl h410 ?_
         have k975 := ((k325.grown0 hi970).grown0 hg973)
         refine wpo_load1 (v := .bool (need0 q.kind)) ot_4 rfl (k975.cell rfl) rfl ?_
         refine wpo_run rfl rfl rfl h410 ?_
         refine wpo_move (v := .bool (need0 q.kind)) rfl rfl ?_
         iterate 3 refine wpo_pass rfl rfl rfl h506 rfl ?_
         refine wpo_run rfl rfl rfl h410 ?_
         refine wpo_pickf (v := .bool false) rfl h506 rfl rfl ?_
         refine wpo_pickf (v := .bool false) rfl h410 rfl rfl ?_
         refine wpo_move (v := .bool false) rfl rfl ?_
         refine wpo_run rfl rfl rfl rfl ?_
         refine wpo_move (v := .slice (some ⟨B323, 0, none⟩) 4 4) rfl rfl ?_
         refine wpo_run rfl rfl rfl rfl ?_
         refine wpo_indexAddr (o' := 1) es_145 rfl rfl (by omega) (by omega) rfl rfl ?_
         refine wpo_run rfl rfl rfl rfl ?_
         refine wpo_load1 (v := .bool (need1 q.kind)) ot_4 rfl (k975.cell rfl) rfl ?_
         refine wpo_run rfl rfl rfl rfl ?_
         refine wpo_move (v := .bool (need1 q.kind)) rfl rfl ?_
         iterate 3 refine wpo_pass rfl rfl rfl h810 rfl ?_
         refine wpo_run rfl rfl rfl rfl ?_
         refine wpo_pickf (v := .bool false) rfl h810 rfl rfl ?_
         refine wpo_pickf (v := .bool false) rfl rfl rfl rfl ?_
         exact wpo_nil (thn_n ⟨⟨e303, e304, e305, e318, rfl, (congrArg Value.bool (by first | (simp only [h105, h347, h410, h490, h506, h810, hT, b0, b1, b2, b3, b4, b5, b6, b7, b8, b9]; done) | simp [h105, h347, h410, h490, h506, h810, hT]))⟩, (grown_trans hi970 hg973)⟩)
   ·
    rintro f976 w977 ⟨⟨e978, e979, e980, e981, e982, e983⟩, hg984⟩
    have hb985 := low0 hb328 hg984
    refine wpf_cond e983 (fun h986 => ?_) (fun h986 => ?_)
    ·
     refine wpf_seq_region ?_
     refine wpo_assign (v := .int .i64 (-1)) rfl rfl ?_
     refine wpo_nil ?_
     refine wpf_ret ?_
     refine thn_r ?_
     refine ⟨.int .i64 (-1), res1 rfl rfl, ?_, hb985⟩
     exact congrArg (Value.int .i64) (check_1 h105 h986)
    ·
     have h987 := or_l h986
     have h988 := or_l h987
     have h989 := or_l h988
     have h990 := of_decide_eq_false h989
     have h991 := or_r h988
     have h992 := nt_f h991
     have h993 := or_r h987
     have h994 := or_r h986
     refine wpf_skip ?_
     refine thn_n ?_
     refine wpf_seq_region ?_
     refine wpo_move (v := .slice a ms.length c) e978 rfl ?_
     refine wpo_fieldAddr (o' := 1) fo_76_1 e979 rfl rfl ?_
     have k995 := ((k322.grown0 hg326).grown0 hg984)
     refine wpo_load1 (v := .int .i64 q.run) ot_3 rfl (k995.cell rfl) rfl ?_
     refine wpo_fieldAddr (o' := 0) fo_29_0 e981 rfl rfl ?_
     have k996 := ((hS320.blk.grown0 hg326).grown0 hg984)
     refine wpo_load1 (v := .int .i64 ((rAt (mAt ms ((q.run - 1).toNat)).t.slots ((q.a).toNat)).th)) ot_3 rfl (k996.cell rfl) rfl ?_
     refine wpo_call (vs := [.slice a ms.length c, .int .i64 q.run, .int .i64 ((rAt (mAt ms ((q.run - 1).toNat)).t.slots ((q.a).toNat)).th)]) gf_122 (args_cons rfl (args_cons rfl (args_cons rfl args_nil))) rfl (l11Sees_c q.run ((rAt (mAt ms ((q.run - 1).toNat)).t.slots ((q.a).toNat)).th) _ ms _ _ (TabAt.low ht hb985) hlen (by omega) hT (by omega) (by omega)) ?_
     rintro _ w997 ⟨rfl, hg998⟩
     have hb999 := low0 hb985 hg998
     refine wpo_assign (v := .bool (sees (tabT ms) q.run ((rAt (mAt ms ((q.run - 1).toNat)).t.slots ((q.a).toNat)).th))) rfl rfl ?_
     refine wpo_nil ?_
     refine wpf_seq ?_
     refine wpf_seq_region_mid (fun f' w' => (f' 0 = .slice a ms.length c ∧ f' 4 = .int .i64 0 ∧ f' 5 = .pointer (some ⟨B180, 0, none⟩) ∧ f' 7 = .bool (sees (tabT ms) q.run ((rAt (mAt ms ((q.run - 1).toNat)).t.slots ((q.a).toNat)).th)) ∧ f' 87 = .bool ((need0 q.kind && (!sees (tabT ms) q.run ((rAt (mAt ms ((q.run - 1).toNat)).t.slots ((q.a).toNat)).th))) || (need1 q.kind && (!touches (tabT ms) q.run ((rAt (mAt ms ((q.run - 1).toNat)).t.slots ((q.a).toNat)).th))))) ∧ w997.grownBy w' none) ?_ ?_
     ·
      refine wpo_move (v := .slice (some ⟨B323, 0, none⟩) 4 4) e982 rfl ?_
      refine wpo_indexAddr (o' := 2) es_145 rfl rfl (by omega) (by omega) rfl rfl ?_
      have k1007 := ((k325.grown0 hg984).grown0 hg998)
      refine wpo_load1 (v := .bool (need0 q.kind)) ot_4 rfl (k1007.cell rfl) rfl ?_
      refine wpo_move (v := .bool (need0 q.kind)) rfl rfl ?_
      rcases bcases (need0 q.kind) with h1008 | h1008
      ·
       refine wpo_run rfl rfl rfl h1008 ?_
       refine wpo_move (v := .bool (sees (tabT ms) q.run ((rAt (mAt ms ((q.run - 1).toNat)).t.slots ((q.a).toNat)).th))) rfl rfl ?_
       refine wpo_run rfl rfl rfl h1008 ?_
       refine wpo_not (b' := !sees (tabT ms) q.run ((rAt (mAt ms ((q.run - 1).toNat)).t.slots ((q.a).toNat)).th)) rfl rfl rfl ?_
       refine wpo_pickt (v := .bool (!sees (tabT ms) q.run ((rAt (mAt ms ((q.run - 1).toNat)).t.slots ((q.a).toNat)).th))) rfl h1008 rfl rfl ?_
       refine wpo_move (v := .bool (!sees (tabT ms) q.run ((rAt (mAt ms ((q.run - 1).toNat)).t.slots ((q.a).toNat)).th))) rfl rfl ?_
       rcases bcases (!sees (tabT ms) q.run ((rAt (mAt ms ((q.run - 1).toNat)).t.slots ((q.a).toNat)).th)) with h1009 | h1009
       ·
        have h1010 := nt_t h1009
        iterate 4 refine wpo_pass rfl rfl rfl h1009 rfl ?_
        iterate 7 refine wpo_passu rfl rfl rfl rfl ?_
        refine wpo_pass rfl rfl rfl h1009 rfl ?_
        refine wpo_pickt (v := .bool true) rfl h1009 rfl rfl ?_
        exact wpo_nil ⟨⟨e978, e980, e981, rfl, (congrArg Value.bool (by first | (simp only [h1008, h1009, h1010, h105, h986, h987, h988, h989, h991, h992, h993, h994, hT, b0, b1, b2, b3, b4, b5, b6, b7, b8, b9]; done) | simp [h1008, h1009, h1010, h105, h986, h987, h988, h989, h991, h992, h993, h994, hT]))⟩, (World.grownBy.refl _ _)⟩
       ·
        have h1011 := nt_f h1009
        refine wpo_run rfl rfl rfl h1009 ?_
        refine wpo_move (v := .slice (some ⟨B323, 0, none⟩) 4 4) e982 rfl ?_
        refine wpo_run rfl rfl rfl h1009 ?_
        refine wpo_indexAddr (o' := 3) es_145 rfl rfl (by omega) (by omega) rfl rfl ?_
        refine wpo_run rfl rfl rfl h1009 ?_
        refine wpo_load1 (v := .bool (need1 q.kind)) ot_4 rfl (k1007.cell rfl) rfl ?_
        refine wpo_run rfl rfl rfl h1009 ?_
        refine wpo_move (v := .bool (need1 q.kind)) rfl rfl ?_
        rcases bcases (need1 q.kind) with h1012 | h1012
        ·
         refine wpo_run rfl rfl rfl h1012 ?_
         refine wpo_move (v := .slice a ms.length c) e978 rfl ?_
         refine wpo_run rfl rfl rfl h1012 ?_
         refine wpo_fieldAddr (o' := 1) fo_76_1 e979 rfl rfl ?_
         refine wpo_run rfl rfl rfl h1012 ?_
         have k1013 := (k995.grown0 hg998)
         refine wpo_load1 (v := .int .i64 q.run) ot_3 rfl (k1013.cell rfl) rfl ?_
         refine wpo_run rfl rfl rfl h1012 ?_
         refine wpo_fieldAddr (o' := 0) fo_29_0 e981 rfl rfl ?_
         refine wpo_run rfl rfl rfl h1012 ?_
         have k1014 := (k996.grown0 hg998)
         refine wpo_load1 (v := .int .i64 ((rAt (mAt ms ((q.run - 1).toNat)).t.slots ((q.a).toNat)).th)) ot_3 rfl (k1014.cell rfl) rfl ?_
         refine wpo_run rfl rfl rfl h1012 ?_
         refine wpo_call (vs := [.slice a ms.length c, .int .i64 q.run, .int .i64 ((rAt (mAt ms ((q.run - 1).toNat)).t.slots ((q.a).toNat)).th)]) gf_124 (args_cons rfl (args_cons rfl (args_cons rfl args_nil))) rfl (l11Touches_c q.run ((rAt (mAt ms ((q.run - 1).toNat)).t.slots ((q.a).toNat)).th) _ ms _ _ (TabAt.low ht hb999) hlen (by omega) hT (by omega) (by omega)) ?_
         rintro _ w1015 ⟨rfl, hg1016⟩
         have hb1017 := low0 hb999 hg1016
         refine wpo_run rfl rfl rfl h1012 ?_
         refine wpo_not (b' := !touches (tabT ms) q.run ((rAt (mAt ms ((q.run - 1).toNat)).t.slots ((q.a).toNat)).th)) rfl rfl rfl ?_
         refine wpo_run rfl rfl rfl h1009 ?_
         refine wpo_pickt (v := .bool (!touches (tabT ms) q.run ((rAt (mAt ms ((q.run - 1).toNat)).t.slots ((q.a).toNat)).th))) rfl h1012 rfl rfl ?_
         refine wpo_pickf (v := .bool (!touches (tabT ms) q.run ((rAt (mAt ms ((q.run - 1).toNat)).t.slots ((q.a).toNat)).th))) rfl h1009 rfl rfl ?_
         exact wpo_nil ⟨⟨e978, e980, e981, rfl, (congrArg Value.bool (by first | (simp only [h1008, h1009, h1011, h1012, h105, h986, h987, h988, h989, h991, h992, h993, h994, hT, b0, b1, b2, b3, b4, b5, b6, b7, b8, b9]; done) | simp [h1008, h1009, h1011, h1012, h105, h986, h987, h988, h989, h991, h992, h993, h994, hT]))⟩, hg1016⟩
        ·
         iterate 7 refine wpo_pass rfl rfl rfl h1012 rfl ?_
         refine wpo_run rfl rfl rfl h1009 ?_
         refine wpo_pickf (v := .bool false) rfl h1012 rfl rfl ?_
         refine wpo_pickf (v := .bool false) rfl h1009 rfl rfl ?_
         exact wpo_nil ⟨⟨e978, e980, e981, rfl, (congrArg Value.bool (by first | (simp only [h1008, h1009, h1011, h1012, h105, h986, h987, h988, h989, h991, h992, h993, h994, hT, b0, b1, b2, b3, b4, b5, b6, b7, b8, b9]; done) | simp [h1008, h1009, h1011, h1012, h105, h986, h987, h988, h989, h991, h992, h993, h994, hT]))⟩, (World.grownBy.refl _ _)⟩
      ·
       refine wpo_pass rfl rfl rfl h1008 rfl ?_
       refine wpo_pass rfl rfl rfl h1008 rfl ?_
       refine wpo_pickf (v := .bool false) rfl h1008 rfl rfl ?_
       refine wpo_move (v := .bool false) rfl rfl ?_
       refine wpo_run rfl rfl rfl rfl ?_
       refine wpo_move (v := .slice (some ⟨B323, 0, none⟩) 4 4) e982 rfl ?_
       refine wpo_run rfl rfl rfl rfl ?_
       refine wpo_indexAddr (o' := 3) es_145 rfl rfl (by omega) (by omega) rfl rfl ?_
       refine wpo_run rfl rfl rfl rfl ?_
       refine wpo_load1 (v := .bool (need1 q.kind)) ot_4 rfl (k1007.cell rfl) rfl ?_
       refine wpo_run rfl rfl rfl rfl ?_
       refine wpo_move (v := .bool (need1 q.kind)) rfl rfl ?_
       rcases bcases (need1 q.kind) with h1018 | h1018
       ·
        refine wpo_run rfl rfl rfl h1018 ?_
        refine wpo_move (v := .slice a ms.length c) e978 rfl ?_
        refine wpo_run rfl rfl rfl h1018 ?_
        refine wpo_fieldAddr (o' := 1) fo_76_1 e979 rfl rfl ?_
        refine wpo_run rfl rfl rfl h1018 ?_
        have k1019 := (k995.grown0 hg998)
        refine wpo_load1 (v := .int .i64 q.run) ot_3 rfl (k1019.cell rfl) rfl ?_
        refine wpo_run rfl rfl rfl h1018 ?_
        refine wpo_fieldAddr (o' := 0) fo_29_0 e981 rfl rfl ?_
        refine wpo_run rfl rfl rfl h1018 ?_
        have k1020 := (k996.grown0 hg998)
        refine wpo_load1 (v := .int .i64 ((rAt (mAt ms ((q.run - 1).toNat)).t.slots ((q.a).toNat)).th)) ot_3 rfl (k1020.cell rfl) rfl ?_
        refine wpo_run rfl rfl rfl h1018 ?_
        refine wpo_call (vs := [.slice a ms.length c, .int .i64 q.run, .int .i64 ((rAt (mAt ms ((q.run - 1).toNat)).t.slots ((q.a).toNat)).th)]) gf_124 (args_cons rfl (args_cons rfl (args_cons rfl args_nil))) rfl (l11Touches_c q.run ((rAt (mAt ms ((q.run - 1).toNat)).t.slots ((q.a).toNat)).th) _ ms _ _ (TabAt.low ht hb999) hlen (by omega) hT (by omega) (by omega)) ?_
        rintro _ w1021 ⟨rfl, hg1022⟩
        have hb1023 := low0 hb999 hg1022
        refine wpo_run rfl rfl rfl h1018 ?_
        refine wpo_not (b' := !touches (tabT ms) q.run ((rAt (mAt ms ((q.run - 1).toNat)).t.slots ((q.a).toNat)).th)) rfl rfl rfl ?_
        refine wpo_run rfl rfl rfl rfl ?_
        refine wpo_pickt (v := .bool (!touches (tabT ms) q.run ((rAt (mAt ms ((q.run - 1).toNat)).t.slots ((q.a).toNat)).th))) rfl h1018 rfl rfl ?_
        refine wpo_pickf (v := .bool (!touches (tabT ms) q.run ((rAt (mAt ms ((q.run - 1).toNat)).t.slots ((q.a).toNat)).th))) rfl rfl rfl rfl ?_
        exact wpo_nil ⟨⟨e978, e980, e981, rfl, (congrArg Value.bool (by first | (simp only [h1008, h1018, h105, h986, h987, h988, h989, h991, h992, h993, h994, hT, b0, b1, b2, b3, b4, b5, b6, b7, b8, b9]; done) | simp [h1008, h1018, h105, h986, h987, h988, h989, h991, h992, h993, h994, hT]))⟩, hg1022⟩
       ·
        iterate 7 refine wpo_pass rfl rfl rfl h1018 rfl ?_
        refine wpo_run rfl rfl rfl rfl ?_
        refine wpo_pickf (v := .bool false) rfl h1018 rfl rfl ?_
        refine wpo_pickf (v := .bool false) rfl rfl rfl rfl ?_
        exact wpo_nil ⟨⟨e978, e980, e981, rfl, (congrArg Value.bool (by first | (simp only [h1008, h1018, h105, h986, h987, h988, h989, h991, h992, h993, h994, hT, b0, b1, b2, b3, b4, b5, b6, b7, b8, b9]; done) | simp [h1008, h1018, h105, h986, h987, h988, h989, h991, h992, h993, h994, hT]))⟩, (World.grownBy.refl _ _)⟩
     ·
      rintro f1024 w1025 ⟨⟨e1026, e1027, e1028, e1029, e1030⟩, hg1031⟩
      have hb1032 := low0 hb999 hg1031
      refine wpf_cond e1030 (fun h1033 => ?_) (fun h1033 => ?_)
      ·
       refine wpf_seq_region ?_
       refine wpo_assign (v := .int .i64 (-2)) rfl rfl ?_
       refine wpo_nil ?_
       refine wpf_ret ?_
       refine thn_r ?_
       refine ⟨.int .i64 (-2), res1 rfl rfl, ?_, hb1032⟩
       exact congrArg (Value.int .i64) (check_2 h105 h986 h1033)
      ·
       have h1034 := or_l h1033
       have h1035 := or_r h1033
       refine wpf_skip ?_
       refine thn_n ?_
       refine wpf_seq ?_
       refine wpf_seq_region_mid (fun f' w' => (f' 4 = .int .i64 0 ∧ f' 94 = .bool (sees (tabT ms) q.run ((rAt (mAt ms ((q.run - 1).toNat)).t.slots ((q.a).toNat)).th) && (!live (tabT ms) (rAt (mAt ms ((q.run - 1).toNat)).t.slots ((q.a).toNat))))) ∧ w1025.grownBy w' none) ?_ ?_
       ·
        refine wpo_move (v := .bool (sees (tabT ms) q.run ((rAt (mAt ms ((q.run - 1).toNat)).t.slots ((q.a).toNat)).th))) e1029 rfl ?_
        refine wpo_move (v := .bool (sees (tabT ms) q.run ((rAt (mAt ms ((q.run - 1).toNat)).t.slots ((q.a).toNat)).th))) rfl rfl ?_
        rcases bcases (sees (tabT ms) q.run ((rAt (mAt ms ((q.run - 1).toNat)).t.slots ((q.a).toNat)).th)) with h1040 | h1040
        ·
         refine wpo_run rfl rfl rfl h1040 ?_
         refine wpo_move (v := .slice a ms.length c) e1026 rfl ?_
         refine wpo_run rfl rfl rfl h1040 ?_
         have k1041 := ((k996.grown0 hg998).grown0 hg1031)
         refine wpo_loadn (vs := [.int .i64 ((rAt (mAt ms ((q.run - 1).toNat)).t.slots ((q.a).toNat)).th), .int .i64 ((rAt (mAt ms ((q.run - 1).toNat)).t.slots ((q.a).toNat)).ve), .bool ((rAt (mAt ms ((q.run - 1).toNat)).t.slots ((q.a).toNat)).rd), .bool ((rAt (mAt ms ((q.run - 1).toNat)).t.slots ((q.a).toNat)).wr), .bool ((rAt (mAt ms ((q.run - 1).toNat)).t.slots ((q.a).toNat)).wk)]) rt_29 e1028 rfl (k1041.rangeL 0 5 rfl) rfl ?_
         refine wpo_run rfl rfl rfl h1040 ?_
         refine wpo_call (vs := [.slice a ms.length c, .agg #[.int .i64 ((rAt (mAt ms ((q.run - 1).toNat)).t.slots ((q.a).toNat)).th), .int .i64 ((rAt (mAt ms ((q.run - 1).toNat)).t.slots ((q.a).toNat)).ve), .bool ((rAt (mAt ms ((q.run - 1).toNat)).t.slots ((q.a).toNat)).rd), .bool ((rAt (mAt ms ((q.run - 1).toNat)).t.slots ((q.a).toNat)).wr), .bool ((rAt (mAt ms ((q.run - 1).toNat)).t.slots ((q.a).toNat)).wk)]]) gf_120 (args_cons rfl (args_cons rfl args_nil)) rfl (l3Live_c (rAt (mAt ms ((q.run - 1).toNat)).t.slots ((q.a).toNat)) (by omega) _ ms _ _ (TabAt.low ht hb1032) hlen (by omega)) ?_
         rintro _ w1042 ⟨rfl, hg1043⟩
         have hb1044 := low0 hb1032 hg1043
         refine wpo_run rfl rfl rfl h1040 ?_
         refine wpo_not (b' := !live (tabT ms) (rAt (mAt ms ((q.run - 1).toNat)).t.slots ((q.a).toNat))) rfl rfl rfl ?_
         refine wpo_pickt (v := .bool (!live (tabT ms) (rAt (mAt ms ((q.run - 1).toNat)).t.slots ((q.a).toNat)))) rfl h1040 rfl rfl ?_
         exact wpo_nil ⟨⟨e1027, (congrArg Value.bool (by first | (simp only [h1033, h1034, h1035, h1040, h105, h986, h987, h988, h989, h991, h992, h993, h994, hT, b0, b1, b2, b3, b4, b5, b6, b7, b8, b9]; done) | simp [h1033, h1034, h1035, h1040, h105, h986, h987, h988, h989, h991, h992, h993, h994, hT]))⟩, hg1043⟩
        ·
         iterate 4 refine wpo_pass rfl rfl rfl h1040 rfl ?_
         refine wpo_pickf (v := .bool false) rfl h1040 rfl rfl ?_
         exact wpo_nil ⟨⟨e1027, (congrArg Value.bool (by first | (simp only [h1033, h1034, h1035, h1040, h105, h986, h987, h988, h989, h991, h992, h993, h994, hT, b0, b1, b2, b3, b4, b5, b6, b7, b8, b9]; done) | simp [h1033, h1034, h1035, h1040, h105, h986, h987, h988, h989, h991, h992, h993, h994, hT]))⟩, (World.grownBy.refl _ _)⟩
       ·
        rintro f1045 w1046 ⟨⟨e1047, e1048⟩, hg1049⟩
        have hb1050 := low0 hb1032 hg1049
        refine wpf_cond e1048 (fun h1051 => ?_) (fun h1051 => ?_)
        ·
         have h1052 := and_l h1051
         have h1053 := and_r h1051
         have h1054 := nt_t h1053
         refine wpf_seq_region ?_
         refine wpo_assign (v := .int .i64 (-3)) rfl rfl ?_
         refine wpo_nil ?_
         refine wpf_ret ?_
         refine thn_r ?_
         refine ⟨.int .i64 (-3), res1 rfl rfl, ?_, hb1050⟩
         exact congrArg (Value.int .i64) (check_3 h105 h986 h1033 h1051)
        ·
         refine wpf_skip ?_
         refine thn_n ?_
         refine wpf_seq_region ?_
         refine wpo_assign (v := .int .i64 0) rfl rfl ?_
         refine wpo_nil ?_
         refine wpf_ret ?_
         refine ⟨.int .i64 0, res1 rfl rfl, ?_, hb1050⟩
         exact congrArg (Value.int .i64) (check_0 h105 h986 h1033 h1051)
theorem l3Copy_c (w : World) (ms : List MTh) (a : Option Addr) (c : Nat) (ht : TabAt w a ms) (hlen : TabLen ms) (hn : ms.length ≤ 1048576) : CallsR Try.prog 112 #[.slice a ms.length c] w (fun v w' => ∃ (B cap : Nat) (ys : List MTh), v = .slice (some ⟨B, 0, none⟩) ys.length cap ∧ tabT ys = tabT ms ∧ w.heap.size ≤ B ∧ Dw.Own w' B 45 8 cap ys.length (ys.flatMap MTh.cells) ∧ RowsO 29 3 w.heap.size w' ys ∧ w.grownBy w' none) := by
 refine calls_of_wpf (n := 32) Try.func112 rfl Try.ntmps112 rfl ?_
 have hb0 := World.grownBy.refl w none
 refine wpf_seq_region ?_
 refine wpo_assign (v := .slice none 0 0) rfl rfl ?_
 refine wpo_nil ?_
 refine wpf_seq_region ?_
 refine wpo_buildSlice (ps := []) (e := 45) (cs := (([] : List MTh).flatMap MTh.cells).toArray) parts_nil (fun _ => by kernel_rfl) rfl ?_
 intro B101 w102 hN103
 have hlB101 := hN_ge hN103 hb0
 have hb104 := low0 hb0 hN103.grw
 refine wpo_assign (v := .slice (some ⟨B101, 0, none⟩) 0 0) rfl rfl ?_
 refine wpo_nil ?_
 refine wpf_seq ?_
 refine wpf_seq_region ?_
 refine wpo_assign (v := .int .i64 0) rfl rfl ?_
 refine wpo_nil ?_
 refine wpf_block ?_
 refine wpf_loopN (fun mm f' w' => ∃ (k : Nat) (Bt : Nat) (ct : Nat) (ys : List MTh), mm = ms.length - k ∧ k ≤ ms.length ∧ ys.length = k ∧ tabT ys = (tabT ms).take k ∧ RowsO 29 3 w.heap.size w' ys ∧ Dw.Own w' Bt 45 8 ct ys.length (ys.flatMap MTh.cells) ∧ w.heap.size ≤ Bt ∧ f' 3 = .slice (some ⟨Bt, 0, none⟩) ys.length ct ∧ f' 4 = .int .i64 (k : Int) ∧ f' 0 = .slice a ms.length c ∧ f' 2 = .slice none 0 0 ∧ w.grownBy w' none) (ms.length - 0) ⟨0, B101, 0, ([] : List MTh), rfl, (Nat.zero_le _), rfl, rfl, RowsO.nil, (Own.rows wide_mth hN103.blk (by simp)), hlB101, rfl, rfl, rfl, rfl, hb104⟩ ?_
 rintro mm f105 w106 ⟨k, Bt, ct, ys, hm108, hk, hyk, hyt, hRO, hOt, hlBt, e109, e110, e111, e112, hb107⟩
 obtain ⟨hi, hhi⟩ : ∃ n, n = w106.heap.size := ⟨_, rfl⟩
 have hH3 := RowsO.hi hRO
 rw [← hhi] at hH3
 have hhw : w.heap.size ≤ hi := by rw [hhi]; exact hb107.size
 have hbt3 := hOt.lt
 refine wpf_seq ?_
 refine wpf_seq_region ?_
 refine wpo_move (v := .int .i64 (k : Int)) e110 rfl ?_
 refine wpo_move (v := .slice a ms.length c) e111 rfl ?_
 refine wpo_len (by kernel_rfl) rfl rfl ?_
 refine wpo_lss (q := decide ((k : Int) < (ms.length : Int))) rfl rfl rfl rfl ?_
 refine wpo_nil ?_
 refine wpf_cond rfl (fun h113 => ?_) (fun h113 => ?_)
 ·
  have h114 := of_decide_eq_true h113
  refine wpf_skip ?_
  refine thn_n ?_
  refine wpf_seq ?_
  refine wpf_block ?_
  refine wpf_seq_region ?_
  refine wpo_move (v := .slice a ms.length c) e111 rfl ?_
  refine wpo_move (v := .int .i64 (k : Int)) e110 rfl ?_
  obtain ⟨b117, q118, o119, ha120, ho121, hr122⟩ := SlAt.at (TabAt.low ht hb107).1 (map_get (mAt_get (show k < ms.length by omega)))
  have hle123 := TabLen.at hlen (mAt_get (show k < ms.length by omega))
  refine wpo_indexE es_54 rfl rfl ha120 ho121 (by omega) (by omega) rfl ?_
  refine wpo_loadn (vs := [.int .i64 ((mAt ms k).t.kind), .int .i64 ((mAt ms k).t.lab.s), .int .i64 ((mAt ms k).t.lab.v), .int .i64 ((mAt ms k).t.ve), .int .i64 ((mAt ms k).t.num), .slice ((mAt ms k).sa) ((mAt ms k).t.slots.length) ((mAt ms k).sc), .slice ((mAt ms k).qa) ((mAt ms k).t.queue.length) ((mAt ms k).qc), .int .i64 ((mAt ms k).t.to)]) rt_45 rfl rfl (range_sub hr122 0 8 rfl) rfl ?_
  refine wpo_alloc (cs := #[.int .i64 0, .int .i64 0, .int .i64 0, .int .i64 0, .int .i64 0, .slice none 0 0, .slice none 0 0, .int .i64 0]) zt_45 rfl rfl ?_
  intro B124 w125 hN126
  have hlB124 := hN_ge hN126 hb107
  have hhiB124 : hi ≤ B124 := Nat.le_trans (Nat.le_of_eq hhi) (Nat.le_of_eq hN126.eq.symm)
  have lt_Bt_B124 := hN_gtl hN126 (hOt).lt
  have hb127 := low0 hb107 hN126.grw
  refine wpo_storen (vs := [.int .i64 ((mAt ms k).t.kind), .int .i64 ((mAt ms k).t.lab.s), .int .i64 ((mAt ms k).t.lab.v), .int .i64 ((mAt ms k).t.ve), .int .i64 ((mAt ms k).t.num), .slice ((mAt ms k).sa) ((mAt ms k).t.slots.length) ((mAt ms k).sc), .slice ((mAt ms k).qa) ((mAt ms k).t.queue.length) ((mAt ms k).qc), .int .i64 ((mAt ms k).t.to)]) (cs' := #[.int .i64 ((mAt ms k).t.kind), .int .i64 ((mAt ms k).t.lab.s), .int .i64 ((mAt ms k).t.lab.v), .int .i64 ((mAt ms k).t.ve), .int .i64 ((mAt ms k).t.num), .slice ((mAt ms k).sa) ((mAt ms k).t.slots.length) ((mAt ms k).sc), .slice ((mAt ms k).qa) ((mAt ms k).t.queue.length) ((mAt ms k).qc), .int .i64 ((mAt ms k).t.to)]) rt_45 rfl rfl rfl (by simp [Value.oneCell']) hN126.blk (Nat.le_of_ble_eq_true rfl) rfl ?_
  intro w128 hS129
  have hb130 := low1 hb127 hS129.grw (by omega)
  refine wpo_nil ?_
  refine wpf_seq_region ?_
  refine wpo_buildSlice (ps := []) (e := 29) (cs := (([] : List Rt).flatMap Rt.cells).toArray) parts_nil (fun _ => by kernel_rfl) rfl ?_
  intro B131 w132 hN133
  have hlB131 := hN_ge hN133 hb130
  have hhiB131 : hi ≤ B131 := Nat.le_trans (Nat.le_trans (Nat.le_trans (Nat.le_of_eq hhi) hN126.grw.size) hS129.grw.size) (Nat.le_of_eq hN133.eq.symm)
  have k134 := ((hOt.grown0 hN126.grw).grown hS129.grw (some_ne (by omega)))
  have lt_Bt_B131 := hN_gtl hN133 (k134).lt
  have lt_B124_B131 := hN_gtl hN133 (hS129.blk).lt
  have hb135 := low0 hb130 hN133.grw
  refine wpo_fieldAddr (o' := 5) fo_45_4 rfl rfl rfl ?_
  have k136 := (hS129.blk.grown0 hN133.grw)
  refine wpo_load1 (v := .slice ((mAt ms k).sa) ((mAt ms k).t.slots.length) ((mAt ms k).sc)) ot_27 rfl (k136.cell rfl) rfl ?_
  have k137 := (k134.grown0 hN133.grw)
  refine wpo_appendN (g := Rt.cells) (ys := ([])) (zs := ((mAt ms k).t.slots)) (lo := hi) mk_27 rfl wide_rt (by omega) onec_rt rfl rfl (OwnN.of (Own.rows wide_rt hN133.blk (by simp)) hhiB131) (TabAt.th (TabAt.low ht hb135) (mAt_get (show k < ms.length by omega))).1 (TabAt.th (TabAt.low ht hb135) (mAt_get (show k < ms.length by omega))).2.2.1 (by first | omega | exact Nat.le_of_ble_eq_true rfl | (simp only [List.length_nil, List.length_cons, List.length_append, List.length_replicate]; omega) | (simp only [List.length_drop, List.length_nil]; omega)) (by omega) (Nat.le_trans (Nat.le_trans (Nat.le_trans (Nat.le_of_eq hhi) hN126.grw.size) hS129.grw.size) hN133.grw.size) rfl ?_
  intro a138 cap139 w140 hO141 hg142 hor143
  have hg144 : World.grownBy w132 w140 (some B131) := hg142
  have hb145 := low1 hb135 hg144 (by omega)
  refine wpo_fieldAddr (o' := 5) fo_45_4 rfl rfl rfl ?_
  have k146 := (k136.grown hg144 (some_ne (by omega)))
  refine wpo_store1 (v := .slice a138 (((mAt ms k).t.slots).length) cap139) (cs' := #[.int .i64 ((mAt ms k).t.kind), .int .i64 ((mAt ms k).t.lab.s), .int .i64 ((mAt ms k).t.lab.v), .int .i64 ((mAt ms k).t.ve), .int .i64 ((mAt ms k).t.num), .slice a138 (((mAt ms k).t.slots).length) cap139, .slice ((mAt ms k).qa) ((mAt ms k).t.queue.length) ((mAt ms k).qc), .int .i64 ((mAt ms k).t.to)]) ot_27 rfl rfl rfl k146 (Nat.le_of_ble_eq_true rfl) rfl ?_
  intro w147 hS148
  have hb149 := low1 hb145 hS148.grw (by omega)
  refine wpo_nil ?_
  refine wpf_seq_region ?_
  refine wpo_buildSlice (ps := []) (e := 3) (cs := (([] : List Int).flatMap icell).toArray) parts_nil (fun _ => by kernel_rfl) rfl ?_
  intro B150 w151 hN152
  have hlB150 := hN_ge hN152 hb149
  have hhiB150 : hi ≤ B150 := Nat.le_trans (Nat.le_trans (Nat.le_trans (Nat.le_trans (Nat.le_trans (Nat.le_trans (Nat.le_of_eq hhi) hN126.grw.size) hS129.grw.size) hN133.grw.size) hg144.size) hS148.grw.size) (Nat.le_of_eq hN152.eq.symm)
  have k153 := ((k137.grown hg144 (some_ne (by omega))).grown hS148.grw (some_ne (by omega)))
  have lt_Bt_B150 := hN_gtl hN152 (k153).lt
  have lt_B124_B150 := hN_gtl hN152 (hS148.blk).lt
  have hb154 := low0 hb149 hN152.grw
  refine wpo_fieldAddr (o' := 6) fo_45_5 rfl rfl rfl ?_
  have k155 := (hS148.blk.grown0 hN152.grw)
  refine wpo_load1 (v := .slice ((mAt ms k).qa) ((mAt ms k).t.queue.length) ((mAt ms k).qc)) ot_43 rfl (k155.cell rfl) rfl ?_
  have k156 := (k153.grown0 hN152.grw)
  refine wpo_appendN (g := icell) (ys := ([])) (zs := ((mAt ms k).t.queue)) (lo := hi) mk_43 rfl wide_int (by omega) onec_int rfl rfl (OwnN.of (Own.rows wide_int hN152.blk (by simp)) hhiB150) (TabAt.th (TabAt.low ht hb154) (mAt_get (show k < ms.length by omega))).2.1 (TabAt.th (TabAt.low ht hb154) (mAt_get (show k < ms.length by omega))).2.2.2 (by first | omega | exact Nat.le_of_ble_eq_true rfl | (simp only [List.length_nil, List.length_cons, List.length_append, List.length_replicate]; omega) | (simp only [List.length_drop, List.length_nil]; omega)) (by omega) (Nat.le_trans (Nat.le_trans (Nat.le_trans (Nat.le_trans (Nat.le_trans (Nat.le_trans (Nat.le_of_eq hhi) hN126.grw.size) hS129.grw.size) hN133.grw.size) hg144.size) hS148.grw.size) hN152.grw.size) rfl ?_
  intro a157 cap158 w159 hO160 hg161 hor162
  have hg163 : World.grownBy w151 w159 (some B150) := hg161
  have hb164 := low1 hb154 hg163 (by omega)
  refine wpo_fieldAddr (o' := 6) fo_45_5 rfl rfl rfl ?_
  have k165 := (k155.grown hg163 (some_ne (by omega)))
  refine wpo_store1 (v := .slice a157 (((mAt ms k).t.queue).length) cap158) (cs' := #[.int .i64 ((mAt ms k).t.kind), .int .i64 ((mAt ms k).t.lab.s), .int .i64 ((mAt ms k).t.lab.v), .int .i64 ((mAt ms k).t.ve), .int .i64 ((mAt ms k).t.num), .slice a138 (((mAt ms k).t.slots).length) cap139, .slice a157 (((mAt ms k).t.queue).length) cap158, .int .i64 ((mAt ms k).t.to)]) ot_43 rfl rfl rfl k165 (Nat.le_of_ble_eq_true rfl) rfl ?_
  intro w166 hS167
  have hb168 := low1 hb164 hS167.grw (by omega)
  refine wpo_nil ?_
  refine wpf_region ?_
  refine wpo_move (v := .slice (some ⟨Bt, 0, none⟩) ys.length ct) e109 rfl ?_
  refine wpo_loadn (vs := [.int .i64 ((mAt ms k).t.kind), .int .i64 ((mAt ms k).t.lab.s), .int .i64 ((mAt ms k).t.lab.v), .int .i64 ((mAt ms k).t.ve), .int .i64 ((mAt ms k).t.num), .slice a138 (((mAt ms k).t.slots).length) cap139, .slice a157 (((mAt ms k).t.queue).length) cap158, .int .i64 ((mAt ms k).t.to)]) rt_45 rfl rfl (hS167.blk.rangeL 0 8 rfl) rfl ?_
  refine wpo_buildSlice (ps := [(0, .agg #[.int .i64 ((mAt ms k).t.kind), .int .i64 ((mAt ms k).t.lab.s), .int .i64 ((mAt ms k).t.lab.v), .int .i64 ((mAt ms k).t.ve), .int .i64 ((mAt ms k).t.num), .slice a138 (((mAt ms k).t.slots).length) cap139, .slice a157 (((mAt ms k).t.queue).length) cap158, .int .i64 ((mAt ms k).t.to)])]) (e := 45) (cs := (([(⟨⟨(mAt ms k).t.kind, ((mAt ms k).t.lab), (mAt ms k).t.ve, (mAt ms k).t.num, ((mAt ms k).t.slots), ((mAt ms k).t.queue), (mAt ms k).t.to⟩, a138, cap139, a157, cap158⟩ : MTh)] : List MTh).flatMap MTh.cells).toArray) (parts_cons rfl parts_nil) (fun _ => by kernel_rfl) rfl ?_
  intro B169 w170 hN171
  have hlB169 := hN_ge hN171 hb168
  have hhiB169 : hi ≤ B169 := Nat.le_trans (Nat.le_trans (Nat.le_trans (Nat.le_trans (Nat.le_trans (Nat.le_trans (Nat.le_trans (Nat.le_trans (Nat.le_trans (Nat.le_of_eq hhi) hN126.grw.size) hS129.grw.size) hN133.grw.size) hg144.size) hS148.grw.size) hN152.grw.size) hg163.size) hS167.grw.size) (Nat.le_of_eq hN171.eq.symm)
  have k172 := ((k156.grown hg163 (some_ne (by omega))).grown hS167.grw (some_ne (by omega)))
  have lt_Bt_B169 := hN_gtl hN171 (k172).lt
  have lt_B124_B169 := hN_gtl hN171 (hS167.blk).lt
  have hb173 := low0 hb168 hN171.grw
  have k174 := (k172.grown0 hN171.grw)
  have k175 := (hS167.blk.grown0 hN171.grw)
  refine wpo_append (g := MTh.cells) (ys := ys) (zs := ([(⟨⟨(mAt ms k).t.kind, ((mAt ms k).t.lab), (mAt ms k).t.ve, (mAt ms k).t.num, ((mAt ms k).t.slots), ((mAt ms k).t.queue), (mAt ms k).t.to⟩, a138, cap139, a157, cap158⟩ : MTh)] : List MTh)) mk_54 rfl wide_mth (by omega) onec_mth rfl rfl k174 (rows_sl wide_mth hN171.blk) (by simp only [List.length_cons, List.length_nil]; omega) (by omega) rfl ?_
  intro B176 cap177 w178 hO179 hg180 hor181
  have hlB176 : w.heap.size ≤ B176 := by rcases hor181 with h | h; (rw [h]; exact hlBt); (rw [h]; exact hb173.size)
  have ne_B124_B176 : B124 ≠ B176 := by have h := (k175).lt; omega
  have ne_B169_B176 : B169 ≠ B176 := by have h := (hN171.blk).lt; omega
  have hb182 := low1 hb173 hg180 (by omega)
  refine wpo_assign (v := .slice (some ⟨B176, 0, none⟩) ((ys ++ ([(⟨⟨(mAt ms k).t.kind, ((mAt ms k).t.lab), (mAt ms k).t.ve, (mAt ms k).t.num, ((mAt ms k).t.slots), ((mAt ms k).t.queue), (mAt ms k).t.to⟩, a138, cap139, a157, cap158⟩ : MTh)] : List MTh)).length) cap177) rfl rfl ?_
  refine wpo_nil ?_
  refine blk_n ?_
  refine thn_n ?_
  refine wpf_region ?_
  refine wpo_move (v := .int .i64 (k : Int)) e110 rfl ?_
  refine wpo_add (c := (k : Int) + 1) rfl rfl (by omega) (by omega) (by omega) rfl ?_
  refine wpo_assign (v := .int .i64 ((k : Int) + 1)) rfl rfl ?_
  refine wpo_nil ?_
  refine thn_n ?_
  have hS183 := (OwnN.typ ((OwnN.typB (OwnN.typ ((OwnN.typB hO141 hS148.grw k146 (by decide)).grown0 hN152.grw) hg163 (Own.rows wide_int hN152.blk (by simp)) (by decide)) hS167.grw k165 (by decide)).grown0 hN171.grw) hg180 k174 (by decide))
  exact ⟨ms.length - (k + 1), by omega, (k + 1), B176, cap177, (ys ++ ([(⟨⟨(mAt ms k).t.kind, ((mAt ms k).t.lab), (mAt ms k).t.ve, (mAt ms k).t.num, ((mAt ms k).t.slots), ((mAt ms k).t.queue), (mAt ms k).t.to⟩, a138, cap139, a157, cap158⟩ : MTh)] : List MTh)), rfl, (by omega), (by rw [List.length_append, hyk]; rfl), (tabT_snoc hyt (mAt_get (show k < ms.length by omega)) rfl), (RowsO.snoc (RowsO.own (RowsO.low (RowsO.ge (RowsO.ge (RowsO.low (RowsO.ge (RowsO.ge (RowsO.low (RowsO.ge (RowsO.low hRO hN126.grw) hS129.grw hH3 (by omega)) hN133.grw) hg144 hH3 (by omega)) hS148.grw hH3 (by omega)) hN152.grw) hg163 hH3 (by omega)) hS167.grw hH3 (by omega)) hN171.grw) hg180 k174 (by decide) (by decide)) ⟨OwnN.mono (OwnN.typ ((OwnN.typB (OwnN.typ ((OwnN.typB hO141 hS148.grw k146 (by decide)).grown0 hN152.grw) hg163 (Own.rows wide_int hN152.blk (by simp)) (by decide)) hS167.grw k165 (by decide)).grown0 hN171.grw) hg180 k174 (by decide)) hhw, OwnN.mono (OwnN.typ ((OwnN.typB hO160 hS167.grw k165 (by decide)).grown0 hN171.grw) hg180 k174 (by decide)) hhw⟩ hH3 (fun S e => (ownN_hi hS183 e).2)), hO179, hlB176, rfl, rfl, e111, e112, hb182⟩
 ·
  have h184 := of_decide_eq_false h113
  refine wpf_exit ?_
  refine thn_e ?_
  refine thn_e ?_
  refine blk_e ?_
  refine thn_n ?_
  refine wpf_seq_region ?_
  refine wpo_move (v := .slice (some ⟨Bt, 0, none⟩) ys.length ct) e109 rfl ?_
  refine wpo_assign (v := .slice (some ⟨Bt, 0, none⟩) ys.length ct) rfl rfl ?_
  refine wpo_nil ?_
  refine wpf_ret ?_
  exact ⟨.slice (some ⟨Bt, 0, none⟩) ys.length ct, res1 rfl rfl, Bt, ct, ys, rfl, tabT_all hyt (by omega), hlBt, hOt, hRO, hb107⟩
end Go.Proofs.Ytlkmdoebmklbbaa
