/- Walks, printed by a program of mine (gen.py) out of the functions. -/
import Derived.Test.YtemimomfjapgiaaDoorK
import Derived.Test.YtemimomfjapgiaaDoorE
namespace Go.Proofs.YtemimomfjapgiaaDoor
open Go.RowKit Go.Dw
set_option maxRecDepth 100000
set_option maxHeartbeats 4000000
set_option linter.unusedSimpArgs false
set_option linter.unusedVariables false
theorem gf_15 : goFn Tryd.prog 15 = true := by kernel_rfl
theorem gf_25 : goFn Tryd.prog 25 = true := by kernel_rfl
theorem gf_42 : goFn Tryd.prog 42 = true := by kernel_rfl
theorem gf_43 : goFn Tryd.prog 43 = true := by kernel_rfl
theorem gf_55 : goFn Tryd.prog 55 = true := by kernel_rfl
theorem gf_56 : goFn Tryd.prog 56 = true := by kernel_rfl
theorem mk_23 : mkTy Tryd.prog 23 = some (31, 8, 96, some (.agg #[.int .i64 0, .int .i64 0, .int .i64 0, .int .i64 0, .int .i64 0, .slice none 0 0, .slice none 0 0, .int .i64 0])) := by kernel_rfl
theorem mk_29 : mkTy Tryd.prog 29 = some (3, 1, 8, some (.int .i64 0)) := by kernel_rfl
theorem l71Thing_c (k to : Int) (p : Int) (hp : 0 ≤ p ∧ p ≤ 1000000000000) (lo R : Nat) (bs : List Int) (a : Option Addr) (c : Nat) (w : World) (hR : Blk w R 56 #[.slice a bs.length c, .int .i64 p]) (hlo : lo ≤ R) (hs : SlLt lo w a 1 (bs.map bcell)) (hb : ∀ b ∈ bs, 0 ≤ b ∧ b ≤ 255) (hn : bs.length ≤ 1048576) : CallsR Tryd.prog 42 #[.pointer (some ⟨R, 0, none⟩), .int .i64 k, .int .i64 to] w (fun v w' => ∃ (m : MTh) (p' : Int), v = .agg #[.int .i64 m.t.kind, .int .i64 m.t.lab.s, .int .i64 m.t.lab.v, .int .i64 m.t.ve, .int .i64 m.t.num, .slice m.sa m.t.slots.length m.sc, .slice m.qa m.t.queue.length m.qc, .int .i64 m.t.to] ∧ RowD 39 3 w.heap.size w' m ∧ p ≤ p' ∧ p' ≤ p + 12 ∧ Blk w' R 56 #[.slice a bs.length c, .int .i64 p'] ∧ w.grownBy w' (some R)) := by
 refine calls_of_wpf (n := 59) Tryd.func42 rfl Tryd.ntmps42 rfl ?_
 have hb0 := World.grownBy.refl w (some R)
 have hRlt := hR.lt
 refine wpf_seq_region ?_
 refine wpo_alloc (cs := #[.int .i64 0, .int .i64 0, .int .i64 0, .int .i64 0, .int .i64 0, .slice none 0 0, .slice none 0 0, .int .i64 0]) zt_31 rfl rfl ?_
 intro B101 w102 hN103
 have hlB101 := hN_ge hN103 hb0
 have lt_R_B101 := hN_gtl hN103 (hR).lt
 have hb104 := low0 hb0 hN103.grw
 refine wpo_nil ?_
 refine wpf_seq_region ?_
 refine wpo_move (v := .int .i64 k) rfl rfl ?_
 refine wpo_move (v := .pointer (some ⟨R, 0, none⟩)) rfl rfl ?_
 have k105 := (hR.grown0 hN103.grw)
 refine wpo_call (vs := [.pointer (some ⟨R, 0, none⟩)]) gf_56 (args_cons rfl args_nil) rfl (l71Label_c p (by omega) _ R bs _ _ _ k105 (by omega) (SlLt.low1 hs hb104 hlo) (by first | exact hb | exact fun b h => hb b (List.mem_of_mem_take h)) (by first | omega | (rw [List.length_take]; omega))) ?_
 rintro _ w116 ⟨l106, p107, rfl, hr108, hr109, hr110, hr111, hp112, hp113, kR114, hg115⟩
 have hb117 := grown_trans hb104 hg115
 refine wpo_move (v := .int .i64 to) rfl rfl ?_
 rcases bcases ((decide (k = 2)) || (decide (k = 3))) with h118 | h118
 ·
  rcases bcases (newOk k l106 to) with h119 | h119
  ·
   have k120 := (hN103.blk.gn hg115)
   have h121 : thingOk (⟨k, l106, 0, 0, zeros4, [], to⟩ : Th) = true := (newOk_y h118).symm.trans h119
   refine wpo_call (vs := [.int .i64 k, .agg #[.int .i64 l106.s, .int .i64 l106.v], .int .i64 to]) gf_55 (args_cons rfl (args_cons rfl (args_cons rfl args_nil))) rfl (sThingNew_yt k to l106 h118 h119 _) ?_
   rintro _ w122 ⟨B124, cap125, B128, cap129, rfl, hge126, hO127, hge130, hO131, ne_B124_B128, hg123⟩
   have hb132 := low0 hb117 hg123
   have hlB124 := Nat.le_trans hb117.size hge126
   have lt_R_B124 := Nat.lt_of_lt_of_le (kR114).lt hge126
   have lt_B101_B124 := Nat.lt_of_lt_of_le (k120).lt hge126
   have hlB128 := Nat.le_trans hb117.size hge130
   have lt_R_B128 := Nat.lt_of_lt_of_le (kR114).lt hge130
   have lt_B101_B128 := Nat.lt_of_lt_of_le (k120).lt hge130
   refine wpo_move (v := .tuple #[.agg #[.int .i64 k, .int .i64 l106.s, .int .i64 l106.v, .int .i64 0, .int .i64 0, .slice (some ⟨B124, 0, none⟩) 4 cap125, .slice (some ⟨B128, 0, none⟩) 0 cap129, .int .i64 to], .bool true]) rfl rfl ?_
   refine wpo_extract (v := .agg #[.int .i64 k, .int .i64 l106.s, .int .i64 l106.v, .int .i64 0, .int .i64 0, .slice (some ⟨B124, 0, none⟩) 4 cap125, .slice (some ⟨B128, 0, none⟩) 0 cap129, .int .i64 to]) rfl rfl rfl ?_
   refine wpo_extract (v := .bool true) rfl rfl rfl ?_
   refine wpo_alloc (cs := #[.int .i64 0, .int .i64 0, .int .i64 0, .int .i64 0, .int .i64 0, .slice none 0 0, .slice none 0 0, .int .i64 0]) zt_31 rfl rfl ?_
   intro B133 w134 hN135
   have hlB133 := hN_ge hN135 hb132
   have k136 := (kR114.grown0 hg123)
   have lt_R_B133 := hN_gtl hN135 (k136).lt
   have k137 := (k120.grown0 hg123)
   have lt_B101_B133 := hN_gtl hN135 (k137).lt
   have lt_B128_B133 := hN_gtl hN135 (hO131).lt
   have lt_B124_B133 := hN_gtl hN135 (hO127).lt
   have hb138 := low0 hb132 hN135.grw
   refine wpo_storen (vs := [.int .i64 k, .int .i64 l106.s, .int .i64 l106.v, .int .i64 0, .int .i64 0, .slice (some ⟨B124, 0, none⟩) 4 cap125, .slice (some ⟨B128, 0, none⟩) 0 cap129, .int .i64 to]) (cs' := #[.int .i64 k, .int .i64 l106.s, .int .i64 l106.v, .int .i64 0, .int .i64 0, .slice (some ⟨B124, 0, none⟩) 4 cap125, .slice (some ⟨B128, 0, none⟩) 0 cap129, .int .i64 to]) rt_31 rfl rfl rfl (by simp [Value.oneCell']) hN135.blk (Nat.le_of_ble_eq_true rfl) rfl ?_
   intro w139 hS140
   have hb141 := low1 hb138 hS140.grw (by omega)
   refine wpo_assign (v := .bool true) rfl rfl ?_
   refine wpo_nil ?_
   refine wpf_seq ?_
   refine wpf_seq_region ?_
   refine wpo_fieldAddr (o' := 0) fo_31_0 rfl rfl rfl ?_
   refine wpo_load1 (v := .int .i64 k) ot_3 rfl (hS140.blk.cell rfl) rfl ?_
   refine wpo_eql (q := decide (k = 0)) rfl rfl rfl rfl ?_
   refine wpo_nil ?_
   refine wpf_cond rfl (fun h142 => ?_) (fun h142 => ?_)
   ·
    have h143 := of_decide_eq_true h142
    refine wpf_region ?_
    refine wpo_build (ps := []) (v := .agg #[.int .i64 0, .int .i64 0]) parts_nil (by kernel_rfl) rfl ?_
    have k144 := ((k136.grown0 hN135.grw).gn hS140.grw)
    have k145 := ((k137.grown0 hN135.grw).gn hS140.grw)
    have k146 := ((hO131.grown0 hN135.grw).gn hS140.grw)
    have k147 := ((hO127.grown0 hN135.grw).gn hS140.grw)
    have h148 : thingOk (⟨1, ⟨0, 0⟩, 0, 0, [], [], 0⟩ : Th) = true := (newOk_n (by decide)).symm.trans (by decide)
    refine wpo_call (vs := [.int .i64 1, .agg #[.int .i64 0, .int .i64 0], .int .i64 0]) gf_55 (args_cons rfl (args_cons rfl (args_cons rfl args_nil))) rfl (sThingNew_nt 1 0 ⟨0, 0⟩ (by decide) (by decide) _) ?_
    rintro _ w149 ⟨B151, cap152, B155, cap156, rfl, hge153, hO154, hge157, hO158, ne_B151_B155, hg150⟩
    have hb159 := low0 hb141 hg150
    have hlB151 := Nat.le_trans hb141.size hge153
    have lt_R_B151 := Nat.lt_of_lt_of_le (k144).lt hge153
    have lt_B101_B151 := Nat.lt_of_lt_of_le (k145).lt hge153
    have lt_B128_B151 := Nat.lt_of_lt_of_le (k146).lt hge153
    have lt_B124_B151 := Nat.lt_of_lt_of_le (k147).lt hge153
    have lt_B133_B151 := Nat.lt_of_lt_of_le (hS140.blk).lt hge153
    have hlB155 := Nat.le_trans hb141.size hge157
    have lt_R_B155 := Nat.lt_of_lt_of_le (k144).lt hge157
    have lt_B101_B155 := Nat.lt_of_lt_of_le (k145).lt hge157
    have lt_B128_B155 := Nat.lt_of_lt_of_le (k146).lt hge157
    have lt_B124_B155 := Nat.lt_of_lt_of_le (k147).lt hge157
    have lt_B133_B155 := Nat.lt_of_lt_of_le (hS140.blk).lt hge157
    refine wpo_move (v := .tuple #[.agg #[.int .i64 1, .int .i64 0, .int .i64 0, .int .i64 0, .int .i64 0, .slice (some ⟨B151, 0, none⟩) 0 cap152, .slice (some ⟨B155, 0, none⟩) 0 cap156, .int .i64 0], .bool true]) rfl rfl ?_
    refine wpo_extract (v := .agg #[.int .i64 1, .int .i64 0, .int .i64 0, .int .i64 0, .int .i64 0, .slice (some ⟨B151, 0, none⟩) 0 cap152, .slice (some ⟨B155, 0, none⟩) 0 cap156, .int .i64 0]) rfl rfl rfl ?_
    refine wpo_extract (v := .bool true) rfl rfl rfl ?_
    have k160 := (hS140.blk.grown0 hg150)
    refine wpo_storen (vs := [.int .i64 1, .int .i64 0, .int .i64 0, .int .i64 0, .int .i64 0, .slice (some ⟨B151, 0, none⟩) 0 cap152, .slice (some ⟨B155, 0, none⟩) 0 cap156, .int .i64 0]) (cs' := #[.int .i64 1, .int .i64 0, .int .i64 0, .int .i64 0, .int .i64 0, .slice (some ⟨B151, 0, none⟩) 0 cap152, .slice (some ⟨B155, 0, none⟩) 0 cap156, .int .i64 0]) rt_31 rfl rfl rfl (by simp [Value.oneCell']) k160 (Nat.le_of_ble_eq_true rfl) rfl ?_
    intro w161 hS162
    have hb163 := low1 hb159 hS162.grw (by omega)
    refine wpo_nil ?_
    refine thn_n ?_
    refine wpf_seq ?_
    refine wpf_seq_region ?_
    refine wpo_fieldAddr (o' := 0) fo_31_0 rfl rfl rfl ?_
    refine wpo_load1 (v := .int .i64 1) ot_3 rfl (hS162.blk.cell rfl) rfl ?_
    refine wpo_nil ?_
    refine wpf_block ?_
    refine wpf_seq_region ?_
    refine wpo_eql (q := true) rfl rfl (by decide) rfl ?_
    refine wpo_assign (v := .bool true) rfl rfl ?_
    refine wpo_nil ?_
    refine wpf_condt rfl rfl ?_
    refine wpf_seq_region ?_
    refine wpo_move (v := .pointer (some ⟨R, 0, none⟩)) rfl rfl ?_
    have k164 := ((k144.grown0 hg150).gn hS162.grw)
    refine wpo_call (vs := [.pointer (some ⟨R, 0, none⟩), .int .i64 20]) gf_26 (args_cons rfl (args_cons rfl args_nil)) rfl (pick_c p107 20 (by omega) _ R bs _ _ _ k164 (by omega) (SlLt.low1 hs hb163 hlo) (by first | exact hb | exact fun b h => hb b (List.mem_of_mem_take h)) (by first | omega | (rw [List.length_take]; omega))) ?_
    rintro _ w170 ⟨k165, rfl, hk166, hk167, kR168, hg169⟩
    have hb171 := grown_trans hb163 hg169
    refine wpo_fieldAddr (o' := 4) fo_31_3 rfl rfl rfl ?_
    have k172 := (hS162.blk.gn hg169)
    refine wpo_store1 (v := .int .i64 k165) (cs' := #[.int .i64 1, .int .i64 0, .int .i64 0, .int .i64 0, .int .i64 k165, .slice (some ⟨B151, 0, none⟩) 0 cap152, .slice (some ⟨B155, 0, none⟩) 0 cap156, .int .i64 0]) ot_3 rfl rfl rfl k172 (Nat.le_of_ble_eq_true rfl) rfl ?_
    intro w173 hS174
    have hb175 := low1 hb171 hS174.grw (by omega)
    refine wpo_nil ?_
    refine wpf_region ?_
    refine wpo_move (v := .pointer (some ⟨R, 0, none⟩)) rfl rfl ?_
    have k176 := (kR168.gn hS174.grw)
    refine wpo_call (vs := [.pointer (some ⟨R, 0, none⟩), .int .i64 3]) gf_26 (args_cons rfl (args_cons rfl args_nil)) rfl (pick_c (p107 + 1) 3 (by omega) _ R bs _ _ _ k176 (by omega) (SlLt.low1 hs hb175 hlo) (by first | exact hb | exact fun b h => hb b (List.mem_of_mem_take h)) (by first | omega | (rw [List.length_take]; omega))) ?_
    rintro _ w182 ⟨k177, rfl, hk178, hk179, kR180, hg181⟩
    have hb183 := grown_trans hb175 hg181
    refine wpo_quo (c := k177 / 2) rfl rfl (by omega) (by omega) (by omega) rfl rfl ?_
    refine wpo_fieldAddr (o' := 3) fo_31_2 rfl rfl rfl ?_
    have k184 := (hS174.blk.gn hg181)
    refine wpo_store1 (v := .int .i64 (k177 / 2)) (cs' := #[.int .i64 1, .int .i64 0, .int .i64 0, .int .i64 (k177 / 2), .int .i64 k165, .slice (some ⟨B151, 0, none⟩) 0 cap152, .slice (some ⟨B155, 0, none⟩) 0 cap156, .int .i64 0]) ot_3 rfl rfl rfl k184 (Nat.le_of_ble_eq_true rfl) rfl ?_
    intro w185 hS186
    have hb187 := low1 hb183 hS186.grw (by omega)
    refine wpo_nil ?_
    refine blk_n ?_
    refine thn_n ?_
    refine wpf_seq_region ?_
    refine wpo_loadn (vs := [.int .i64 1, .int .i64 0, .int .i64 0, .int .i64 (k177 / 2), .int .i64 k165, .slice (some ⟨B151, 0, none⟩) 0 cap152, .slice (some ⟨B155, 0, none⟩) 0 cap156, .int .i64 0]) rt_31 rfl rfl (hS186.blk.rangeL 0 8 rfl) rfl ?_
    have k188 := ((((((k145.grown0 hg150).gn hS162.grw).gn hg169).gn hS174.grw).gn hg181).gn hS186.grw)
    refine wpo_storen (vs := [.int .i64 1, .int .i64 0, .int .i64 0, .int .i64 (k177 / 2), .int .i64 k165, .slice (some ⟨B151, 0, none⟩) 0 cap152, .slice (some ⟨B155, 0, none⟩) 0 cap156, .int .i64 0]) (cs' := #[.int .i64 1, .int .i64 0, .int .i64 0, .int .i64 (k177 / 2), .int .i64 k165, .slice (some ⟨B151, 0, none⟩) 0 cap152, .slice (some ⟨B155, 0, none⟩) 0 cap156, .int .i64 0]) rt_31 rfl rfl rfl (by simp [Value.oneCell']) k188 (Nat.le_of_ble_eq_true rfl) rfl ?_
    intro w189 hS190
    have hb191 := low1 hb187 hS190.grw (by omega)
    refine wpo_nil ?_
    refine wpf_ret ?_
    have k192 := ((((((hO158.gn hS162.grw).gn hg169).gn hS174.grw).gn hg181).gn hS186.grw).gn hS190.grw)
    have k193 := ((((((hO154.gn hS162.grw).gn hg169).gn hS174.grw).gn hg181).gn hS186.grw).gn hS190.grw)
    have k194 := ((kR180.gn hS186.grw).gn hS190.grw)
    refine ⟨.agg #[.int .i64 1, .int .i64 0, .int .i64 0, .int .i64 (k177 / 2), .int .i64 k165, .slice (some ⟨B151, 0, none⟩) 0 cap152, .slice (some ⟨B155, 0, none⟩) 0 cap156, .int .i64 0], resC rfl (resCell_mk (vs := [.int .i64 1, .int .i64 0, .int .i64 0, .int .i64 (k177 / 2), .int .i64 k165, .slice (some ⟨B151, 0, none⟩) 0 cap152, .slice (some ⟨B155, 0, none⟩) 0 cap156, .int .i64 0]) rt_31 rfl rfl (hS190.blk.rangeL 0 8 rfl)), ⟨⟨1, ⟨0, 0⟩, k177 / 2, k165, ([] : List Rt), ([] : List Int), 0⟩, some ⟨B151, 0, none⟩, cap152, some ⟨B155, 0, none⟩, cap156⟩, (p107 + 1 + 1), rfl, ⟨OwnN.of k192 hlB155, ⟨([] : List Rt), OwnN.of k193 hlB151, rfl, ?_⟩, ?_, ?_, ⟨show (0 : Int) ≤ k177 / 2 by omega, show k177 / 2 ≤ (1 : Int) by omega⟩⟩, by omega, by omega, k194, hb191⟩
    ·
     intro x hx; first | (simp [zeros4] at hx; subst hx; exact ⟨by decide, by decide, by decide, by decide⟩) | simp at hx
    ·
     first | exact Nat.le_of_ble_eq_true rfl | omega | (simp only [List.length_nil]; omega)
    ·
     exact Nat.le_of_ble_eq_true rfl
   ·
    have h195 := of_decide_eq_false h142
    refine wpf_skip ?_
    refine thn_n ?_
    refine wpf_seq ?_
    refine wpf_seq_region ?_
    refine wpo_fieldAddr (o' := 0) fo_31_0 rfl rfl rfl ?_
    refine wpo_load1 (v := .int .i64 k) ot_3 rfl (hS140.blk.cell rfl) rfl ?_
    refine wpo_nil ?_
    refine wpf_block ?_
    refine wpf_seq_region ?_
    refine wpo_eql (q := decide (k = 1)) rfl rfl rfl rfl ?_
    refine wpo_assign (v := .bool (decide (k = 1))) rfl rfl ?_
    refine wpo_nil ?_
    refine wpf_cond rfl (fun h196 => ?_) (fun h196 => ?_)
    ·
     have h197 := of_decide_eq_true h196
     refine wpf_seq_region ?_
     refine wpo_move (v := .pointer (some ⟨R, 0, none⟩)) rfl rfl ?_
     have k198 := ((k136.grown0 hN135.grw).gn hS140.grw)
     refine wpo_call (vs := [.pointer (some ⟨R, 0, none⟩), .int .i64 20]) gf_26 (args_cons rfl (args_cons rfl args_nil)) rfl (pick_c p107 20 (by omega) _ R bs _ _ _ k198 (by omega) (SlLt.low1 hs hb141 hlo) (by first | exact hb | exact fun b h => hb b (List.mem_of_mem_take h)) (by first | omega | (rw [List.length_take]; omega))) ?_
     rintro _ w204 ⟨k199, rfl, hk200, hk201, kR202, hg203⟩
     have hb205 := grown_trans hb141 hg203
     refine wpo_fieldAddr (o' := 4) fo_31_3 rfl rfl rfl ?_
     have k206 := (hS140.blk.gn hg203)
     refine wpo_store1 (v := .int .i64 k199) (cs' := #[.int .i64 k, .int .i64 l106.s, .int .i64 l106.v, .int .i64 0, .int .i64 k199, .slice (some ⟨B124, 0, none⟩) 4 cap125, .slice (some ⟨B128, 0, none⟩) 0 cap129, .int .i64 to]) ot_3 rfl rfl rfl k206 (Nat.le_of_ble_eq_true rfl) rfl ?_
     intro w207 hS208
     have hb209 := low1 hb205 hS208.grw (by omega)
     refine wpo_nil ?_
     refine wpf_region ?_
     refine wpo_move (v := .pointer (some ⟨R, 0, none⟩)) rfl rfl ?_
     have k210 := (kR202.gn hS208.grw)
     refine wpo_call (vs := [.pointer (some ⟨R, 0, none⟩), .int .i64 3]) gf_26 (args_cons rfl (args_cons rfl args_nil)) rfl (pick_c (p107 + 1) 3 (by omega) _ R bs _ _ _ k210 (by omega) (SlLt.low1 hs hb209 hlo) (by first | exact hb | exact fun b h => hb b (List.mem_of_mem_take h)) (by first | omega | (rw [List.length_take]; omega))) ?_
     rintro _ w216 ⟨k211, rfl, hk212, hk213, kR214, hg215⟩
     have hb217 := grown_trans hb209 hg215
     refine wpo_quo (c := k211 / 2) rfl rfl (by omega) (by omega) (by omega) rfl rfl ?_
     refine wpo_fieldAddr (o' := 3) fo_31_2 rfl rfl rfl ?_
     have k218 := (hS208.blk.gn hg215)
     refine wpo_store1 (v := .int .i64 (k211 / 2)) (cs' := #[.int .i64 k, .int .i64 l106.s, .int .i64 l106.v, .int .i64 (k211 / 2), .int .i64 k199, .slice (some ⟨B124, 0, none⟩) 4 cap125, .slice (some ⟨B128, 0, none⟩) 0 cap129, .int .i64 to]) ot_3 rfl rfl rfl k218 (Nat.le_of_ble_eq_true rfl) rfl ?_
     intro w219 hS220
     have hb221 := low1 hb217 hS220.grw (by omega)
     refine wpo_nil ?_
     refine blk_n ?_
     refine thn_n ?_
     refine wpf_seq_region ?_
     refine wpo_loadn (vs := [.int .i64 k, .int .i64 l106.s, .int .i64 l106.v, .int .i64 (k211 / 2), .int .i64 k199, .slice (some ⟨B124, 0, none⟩) 4 cap125, .slice (some ⟨B128, 0, none⟩) 0 cap129, .int .i64 to]) rt_31 rfl rfl (hS220.blk.rangeL 0 8 rfl) rfl ?_
     have k222 := ((((((k137.grown0 hN135.grw).gn hS140.grw).gn hg203).gn hS208.grw).gn hg215).gn hS220.grw)
     refine wpo_storen (vs := [.int .i64 k, .int .i64 l106.s, .int .i64 l106.v, .int .i64 (k211 / 2), .int .i64 k199, .slice (some ⟨B124, 0, none⟩) 4 cap125, .slice (some ⟨B128, 0, none⟩) 0 cap129, .int .i64 to]) (cs' := #[.int .i64 k, .int .i64 l106.s, .int .i64 l106.v, .int .i64 (k211 / 2), .int .i64 k199, .slice (some ⟨B124, 0, none⟩) 4 cap125, .slice (some ⟨B128, 0, none⟩) 0 cap129, .int .i64 to]) rt_31 rfl rfl rfl (by simp [Value.oneCell']) k222 (Nat.le_of_ble_eq_true rfl) rfl ?_
     intro w223 hS224
     have hb225 := low1 hb221 hS224.grw (by omega)
     refine wpo_nil ?_
     refine wpf_ret ?_
     have k226 := (((((((hO131.grown0 hN135.grw).gn hS140.grw).gn hg203).gn hS208.grw).gn hg215).gn hS220.grw).gn hS224.grw)
     have k227 := (((((((hO127.grown0 hN135.grw).gn hS140.grw).gn hg203).gn hS208.grw).gn hg215).gn hS220.grw).gn hS224.grw)
     have k228 := ((kR214.gn hS220.grw).gn hS224.grw)
     refine ⟨.agg #[.int .i64 k, .int .i64 l106.s, .int .i64 l106.v, .int .i64 (k211 / 2), .int .i64 k199, .slice (some ⟨B124, 0, none⟩) 4 cap125, .slice (some ⟨B128, 0, none⟩) 0 cap129, .int .i64 to], resC rfl (resCell_mk (vs := [.int .i64 k, .int .i64 l106.s, .int .i64 l106.v, .int .i64 (k211 / 2), .int .i64 k199, .slice (some ⟨B124, 0, none⟩) 4 cap125, .slice (some ⟨B128, 0, none⟩) 0 cap129, .int .i64 to]) rt_31 rfl rfl (hS224.blk.rangeL 0 8 rfl)), ⟨⟨k, l106, k211 / 2, k199, zeros4, ([] : List Int), to⟩, some ⟨B124, 0, none⟩, cap125, some ⟨B128, 0, none⟩, cap129⟩, (p107 + 1 + 1), rfl, ⟨OwnN.of k226 hlB128, ⟨zeros4, OwnN.of k227 hlB124, rfl, ?_⟩, ?_, ?_, ⟨show (0 : Int) ≤ k211 / 2 by omega, show k211 / 2 ≤ (1 : Int) by omega⟩⟩, by omega, by omega, k228, hb225⟩
     ·
      intro x hx; first | (simp [zeros4] at hx; subst hx; exact ⟨by decide, by decide, by decide, by decide⟩) | simp at hx
     ·
      first | exact Nat.le_of_ble_eq_true rfl | omega | (simp only [List.length_nil]; omega)
     ·
      exact Nat.le_of_ble_eq_true rfl
    ·
     have h229 := of_decide_eq_false h196
     refine wpf_seq_region ?_
     refine wpo_eql (q := decide (k = 4)) rfl rfl rfl rfl ?_
     refine wpo_assign (v := .bool (decide (k = 4))) rfl rfl ?_
     refine wpo_nil ?_
     refine wpf_cond rfl (fun h230 => ?_) (fun h230 => ?_)
     ·
      have h231 := of_decide_eq_true h230
      refine wpf_seq_region ?_
      refine wpo_move (v := .pointer (some ⟨R, 0, none⟩)) rfl rfl ?_
      have k232 := ((k136.grown0 hN135.grw).gn hS140.grw)
      refine wpo_call (vs := [.pointer (some ⟨R, 0, none⟩), .int .i64 4]) gf_26 (args_cons rfl (args_cons rfl args_nil)) rfl (pick_c p107 4 (by omega) _ R bs _ _ _ k232 (by omega) (SlLt.low1 hs hb141 hlo) (by first | exact hb | exact fun b h => hb b (List.mem_of_mem_take h)) (by first | omega | (rw [List.length_take]; omega))) ?_
      rintro _ w238 ⟨k233, rfl, hk234, hk235, kR236, hg237⟩
      have hb239 := grown_trans hb141 hg237
      refine wpo_assign (v := .int .i64 k233) rfl rfl ?_
      refine wpo_nil ?_
      refine wpf_block ?_
      have k240 := (((hO131.grown0 hN135.grw).gn hS140.grw).gn hg237)
      have k241 := (((k137.grown0 hN135.grw).gn hS140.grw).gn hg237)
      have k242 := (((hO127.grown0 hN135.grw).gn hS140.grw).gn hg237)
      have k243 := (hS140.blk.gn hg237)
      refine wpf_loopN (fun mm f' w' => ∃ (n : Int) (p1 : Int) (Bq : Nat) (cq : Nat) (ys : List Int), mm = n.toNat ∧ (0 ≤ n ∧ n ≤ 3) ∧ (p107 + 1 ≤ p1 ∧ p1 ≤ (p107 + 1) + 3 - n) ∧ (ys.length : Int) ≤ 3 - n ∧ Dw.Own w' Bq 3 1 cq ys.length (ys.flatMap icell) ∧ w.heap.size ≤ Bq ∧ R ≠ Bq ∧ B101 ≠ Bq ∧ B124 ≠ Bq ∧ B133 ≠ Bq ∧ f' 9 = .int .i64 n ∧ f' 0 = .pointer (some ⟨R, 0, none⟩) ∧ f' 6 = .pointer (some ⟨B101, 0, none⟩) ∧ f' 7 = .pointer (some ⟨B133, 0, none⟩) ∧ w.grownBy w' (some R) ∧ Blk w' B101 31 #[.int .i64 0, .int .i64 0, .int .i64 0, .int .i64 0, .int .i64 0, .slice none 0 0, .slice none 0 0, .int .i64 0] ∧ Dw.Own w' B124 39 5 cap125 zeros4.length (zeros4.flatMap Rt.cells) ∧ Blk w' B133 31 #[.int .i64 k, .int .i64 l106.s, .int .i64 l106.v, .int .i64 0, .int .i64 0, .slice (some ⟨B124, 0, none⟩) 4 cap125, .slice (some ⟨Bq, 0, none⟩) ys.length cq, .int .i64 to] ∧ Blk w' R 56 #[.slice a bs.length c, .int .i64 p1]) (k233.toNat) ⟨k233, (p107 + 1), B128, cap129, ([] : List Int), rfl, (by omega), (by omega), (by simp only [List.length_nil]; omega), k240, hlB128, (by omega), (by omega), (by omega), (by omega), rfl, rfl, rfl, rfl, hb239, k241, k242, k243, kR236⟩ ?_
      rintro mm f244 w245 ⟨n, p1, Bq, cq, ys, hm247, hnn, hpp, hyl, hOwn, hlBq, hne0, hne1, hne2, hne3, e248, e249, e250, e251, hb246, k252, k253, k254, k255⟩
      refine wpf_seq ?_
      refine wpf_seq_region ?_
      refine wpo_move (v := .int .i64 n) e248 rfl ?_
      refine wpo_gtr (q := decide (0 < n)) rfl rfl rfl rfl ?_
      refine wpo_nil ?_
      refine wpf_cond rfl (fun h256 => ?_) (fun h256 => ?_)
      ·
       have h257 := of_decide_eq_true h256
       refine wpf_skip ?_
       refine thn_n ?_
       refine wpf_seq ?_
       refine wpf_block ?_
       refine wpf_drawI (m := 5) [[], [0], [], [2], [2, 3], [0, 1, 2, 3, 4], [0, 1, 2, 3, 4, 5], [0, 1, 2, 3, 4, 5, 6]] (fun S F w' => ∃ (k347 : Int) (B354 : Nat), w245.grownBy w' (some R) ∧ F 0 = .pointer (some ⟨R, 0, none⟩) ∧ F 6 = .pointer (some ⟨B101, 0, none⟩) ∧ F 7 = .pointer (some ⟨B133, 0, none⟩) ∧ F 9 = .int .i64 n ∧ (S 3 = false → Blk w' R 56 #[.slice a bs.length c, .int .i64 p1]) ∧ (S 3 = true → F 48 = .int .i64 k347 ∧ 0 ≤ k347 ∧ (k347 < 20 ∨ k347 = 0) ∧ Blk w' R 56 #[.slice a bs.length c, .int .i64 (p1 + 1)]) ∧ (S 4 = true → F 49 = .slice (some ⟨B354, 0, none⟩) 1 1 ∧ w.heap.size ≤ B354 ∧ Blk w' B354 3 (([k347] : List Int).flatMap icell).toArray ∧ B101 < B354 ∧ B124 < B354 ∧ B133 < B354 ∧ R < B354 ∧ Bq < B354 ∧ w245.heap.size ≤ B354) ∧ Vals S F [(0, 45, .pointer (some ⟨B133, 6, none⟩)), (1, 46, .slice (some ⟨Bq, 0, none⟩) ys.length cq), (2, 47, .pointer (some ⟨R, 0, none⟩))]) mixed_ (by kernel_rfl) ⟨0, 0, grown_drew _, e249, e250, e251, e248, fun _ => (k255).grown0 (grown_drew _), not_begun, not_begun, vals_0 _⟩ ?_ ?_
       ·
        refine preL_cons (fun S F w362 hS hbef hcl hI => ?_) ?_
        ·
         obtain ⟨k347, B354, hi363, e364, e365, e366, e367, c_old_R, c_3, c_4, hvs⟩ := hI
         have hb368 := grown_trans hb246 hi363
         refine wpo_fieldAddr (o' := 6) fo_31_5 e366 rfl rfl ?_
         exact wpo_nil ⟨k347, B354, hi363, e364, e365, e366, e367, fun h => c_old_R h, c_3, c_4, Vals.up 0 hvs rfl rfl rfl⟩
        refine preL_cons (fun S F w369 hS hbef hcl hI => ?_) ?_
        ·
         obtain ⟨k347, B354, hi370, e371, e372, e373, e374, c_old_R, c_3, c_4, hvs⟩ := hI
         have hb375 := grown_trans hb246 hi370
         have ev376 := Vals.at 0 hvs rfl (ready_of 0 hbef rfl)
         have k377 := (k254.gn hi370)
         refine wpo_load1 (v := .slice (some ⟨Bq, 0, none⟩) ys.length cq) ot_29 ev376 (k377.cell rfl) rfl ?_
         exact wpo_nil ⟨k347, B354, hi370, e371, e372, e373, e374, fun h => c_old_R h, c_3, c_4, Vals.up 1 hvs rfl rfl rfl⟩
        refine preL_cons (fun S F w378 hS hbef hcl hI => ?_) ?_
        ·
         obtain ⟨k347, B354, hi379, e380, e381, e382, e383, c_old_R, c_3, c_4, hvs⟩ := hI
         have hb384 := grown_trans hb246 hi379
         refine wpo_move (v := .pointer (some ⟨R, 0, none⟩)) e380 rfl ?_
         exact wpo_nil ⟨k347, B354, hi379, e380, e381, e382, e383, fun h => c_old_R h, fun h => undone 3 hS hcl rfl h, fun h => undone 4 hS hcl rfl h, Vals.up 2 hvs rfl rfl rfl⟩
        refine preL_cons (fun S F w385 hS hbef hcl hI => ?_) ?_
        ·
         obtain ⟨k347, B354, hi386, e387, e388, e389, e390, c_old_R, c_3, c_4, hvs⟩ := hI
         have hb391 := grown_trans hb246 hi386
         have ev392 := Vals.at 2 hvs rfl (ready_of 2 hbef rfl)
         refine wpo_call (vs := [.pointer (some ⟨R, 0, none⟩), .int .i64 20]) gf_26 (args_cons ev392 (args_cons rfl args_nil)) rfl (pick_c p1 20 (by omega) _ R bs _ _ _ (c_old_R hS) (by omega) (SlLt.low1 hs hb391 hlo) (by first | exact hb | exact fun b h => hb b (List.mem_of_mem_take h)) (by first | omega | (rw [List.length_take]; omega))) ?_
         rintro _ w398 ⟨k393, rfl, hk394, hk395, kR396, hg397⟩
         have hb399 := grown_trans hb391 hg397
         exact wpo_nil ⟨k393, B354, (grown_trans hi386 hg397), e387, e388, e389, e390, fun h => not_open h, fun _ => ⟨rfl, hk394, hk395, kR396⟩, fun h => undone 4 hS hcl rfl h, Vals.keep hvs rfl⟩
        refine preL_cons (fun S F w400 hS hbef hcl hI => ?_) ?_
        ·
         obtain ⟨k347, B354, hi401, e402, e403, e404, e405, c_old_R, c_3, c_4, hvs⟩ := hI
         have hb406 := grown_trans hb246 hi401
         have ev407 := Vals.at 2 hvs rfl (ready_of 2 hbef rfl)
         obtain ⟨e408, hk348, hk349, ks3_R⟩ := c_3 (ready_of 3 hbef rfl)
         refine wpo_buildSlice (ps := [(0, .int .i64 k347)]) (e := 3) (cs := (([k347] : List Int).flatMap icell).toArray) (parts_cons e408 parts_nil) (fun _ => by kernel_rfl) rfl ?_
         intro B409 w410 hN411
         have hlB409 := hN_ge hN411 hb406
         have k412 := (k252.gn hi401)
         have lt_B101_B409 := hN_gtl hN411 (k412).lt
         have k413 := (k253.gn hi401)
         have lt_B124_B409 := hN_gtl hN411 (k413).lt
         have k414 := (k254.gn hi401)
         have lt_B133_B409 := hN_gtl hN411 (k414).lt
         have k415 := (hOwn.gn hi401)
         have lt_Bq_B409 := hN_gtl hN411 (k415).lt
         have lt_R_B409 := hN_gtl hN411 (ks3_R).lt
         have hb416 := low0 hb406 hN411.grw
         exact wpo_nil ⟨k347, B409, (low0 hi401 hN411.grw), e402, e403, e404, e405, fun hn => not_open ((ready_of 3 hbef rfl).symm.trans hn), fun h => let ⟨y417, y418, y419, y420⟩ := c_3 h; ⟨y417, y418, y419, (y420).grown0 hN411.grw⟩, fun _ => ⟨rfl, hlB409, hN411.blk, lt_B101_B409, lt_B124_B409, lt_B133_B409, (by omega), lt_Bq_B409, (Nat.le_trans hi401.size (Nat.le_of_eq hN411.eq.symm))⟩, Vals.keep hvs rfl⟩
        exact preL_nil
       ·
        intro S F w421 hall hI
        obtain ⟨k347, B354, hi422, e423, e424, e425, e426, c_old_R, c_3, c_4, hvs⟩ := hI
        have hb427 := grown_trans hb246 hi422
        have ev428 := Vals.at 0 hvs rfl (hall 0 (by decide))
        have ev429 := Vals.at 1 hvs rfl (hall 1 (by decide))
        have ev430 := Vals.at 2 hvs rfl (hall 2 (by decide))
        obtain ⟨e431, hk348, hk349, ks3_R⟩ := c_3 (hall 3 (by decide))
        obtain ⟨e432, hlB354, kb_B354, lt_B101_B354, lt_B124_B354, lt_B133_B354, lt_R_B354, lt_Bq_B354, hk_B354⟩ := c_4 (hall 4 (by decide))
        have k433 := (hOwn.gn hi422)
        have k434 := (k252.gn hi422)
        have k435 := (k253.gn hi422)
        have k436 := (k254.gn hi422)
        refine wpo_append (g := icell) (ys := ys) (zs := ([k347] : List Int)) mk_29 rfl wide_int (by omega) onec_int ev429 e432 k433 (rows_sl wide_int kb_B354) (by simp only [List.length_cons, List.length_nil]; omega) (by omega) rfl ?_
        intro B437 cap438 w439 hO440 hg441 hor442
        have hlB437 : w.heap.size ≤ B437 := by rcases hor442 with h | h; (rw [h]; exact hlBq); (rw [h]; exact hb427.size)
        have ne_B101_B437 : B101 ≠ B437 := by have h := (k434).lt; omega
        have ne_B124_B437 : B124 ≠ B437 := by have h := (k435).lt; omega
        have ne_B133_B437 : B133 ≠ B437 := by have h := (k436).lt; omega
        have ne_R_B437 : R ≠ B437 := by have h := (ks3_R).lt; omega
        have ne_B354_B437 : B354 ≠ B437 := by have h := (kb_B354).lt; omega
        have hb443 := low1 hb427 hg441 (by omega)
        refine wpo_fieldAddr (o' := 6) fo_31_5 e425 rfl rfl ?_
        have k444 := (k436.gn hg441)
        refine wpo_store1 (v := .slice (some ⟨B437, 0, none⟩) ((ys ++ ([k347] : List Int)).length) cap438) (cs' := #[.int .i64 k, .int .i64 l106.s, .int .i64 l106.v, .int .i64 0, .int .i64 0, .slice (some ⟨B124, 0, none⟩) 4 cap125, .slice (some ⟨B437, 0, none⟩) ((ys ++ ([k347] : List Int)).length) cap438, .int .i64 to]) ot_29 rfl rfl rfl k444 (Nat.le_of_ble_eq_true rfl) rfl ?_
        intro w445 hS446
        have hb447 := low1 hb443 hS446.grw (by omega)
        refine wpo_nil ?_
        refine blk_n ?_
        refine thn_n ?_
        refine wpf_region ?_
        refine wpo_move (v := .int .i64 n) e426 rfl ?_
        refine wpo_sub (c := n - 1) rfl rfl (by omega) (by omega) (by omega) rfl ?_
        refine wpo_assign (v := .int .i64 (n - 1)) rfl rfl ?_
        refine wpo_nil ?_
        refine thn_n ?_
        have k448 := (hO440.gn hS446.grw)
        have k449 := ((k434.gn hg441).gn hS446.grw)
        have k450 := ((k435.gn hg441).gn hS446.grw)
        have k451 := ((ks3_R.gn hg441).gn hS446.grw)
        exact ⟨(n - 1).toNat, by omega, (n - 1), (p1 + 1), B437, cap438, (ys ++ ([k347] : List Int)), rfl, (by omega), (by omega), (by simp only [List.length_append, List.length_cons, List.length_nil]; omega), k448, hlB437, (by omega), (by omega), (by omega), (by omega), rfl, e423, e424, e425, hb447, k449, k450, hS446.blk, k451⟩
      ·
       have h452 := of_decide_eq_false h256
       refine wpf_exit ?_
       refine thn_e ?_
       refine thn_e ?_
       refine blk_e ?_
       refine blk_n ?_
       refine thn_n ?_
       refine wpf_seq_region ?_
       refine wpo_loadn (vs := [.int .i64 k, .int .i64 l106.s, .int .i64 l106.v, .int .i64 0, .int .i64 0, .slice (some ⟨B124, 0, none⟩) 4 cap125, .slice (some ⟨Bq, 0, none⟩) ys.length cq, .int .i64 to]) rt_31 e251 rfl (k254.rangeL 0 8 rfl) rfl ?_
       refine wpo_storen (vs := [.int .i64 k, .int .i64 l106.s, .int .i64 l106.v, .int .i64 0, .int .i64 0, .slice (some ⟨B124, 0, none⟩) 4 cap125, .slice (some ⟨Bq, 0, none⟩) ys.length cq, .int .i64 to]) (cs' := #[.int .i64 k, .int .i64 l106.s, .int .i64 l106.v, .int .i64 0, .int .i64 0, .slice (some ⟨B124, 0, none⟩) 4 cap125, .slice (some ⟨Bq, 0, none⟩) ys.length cq, .int .i64 to]) rt_31 e250 rfl rfl (by simp [Value.oneCell']) k252 (Nat.le_of_ble_eq_true rfl) rfl ?_
       intro w453 hS454
       have hb455 := low1 hb246 hS454.grw (by omega)
       refine wpo_nil ?_
       refine wpf_ret ?_
       have k456 := (hOwn.gn hS454.grw)
       have k457 := (k253.gn hS454.grw)
       have k458 := (k255.gn hS454.grw)
       refine ⟨.agg #[.int .i64 k, .int .i64 l106.s, .int .i64 l106.v, .int .i64 0, .int .i64 0, .slice (some ⟨B124, 0, none⟩) 4 cap125, .slice (some ⟨Bq, 0, none⟩) ys.length cq, .int .i64 to], resC rfl (resCell_mk (vs := [.int .i64 k, .int .i64 l106.s, .int .i64 l106.v, .int .i64 0, .int .i64 0, .slice (some ⟨B124, 0, none⟩) 4 cap125, .slice (some ⟨Bq, 0, none⟩) ys.length cq, .int .i64 to]) rt_31 e250 rfl (hS454.blk.rangeL 0 8 rfl)), ⟨⟨k, l106, 0, 0, zeros4, ys, to⟩, some ⟨B124, 0, none⟩, cap125, some ⟨Bq, 0, none⟩, cq⟩, p1, rfl, ⟨OwnN.of k456 hlBq, ⟨zeros4, OwnN.of k457 hlB124, rfl, ?_⟩, ?_, ?_, ⟨show (0 : Int) ≤ 0 by omega, show 0 ≤ (1 : Int) by omega⟩⟩, by omega, by omega, k458, hb455⟩
       ·
        intro x hx; first | (simp [zeros4] at hx; subst hx; exact ⟨by decide, by decide, by decide, by decide⟩) | simp at hx
       ·
        first | exact Nat.le_of_ble_eq_true rfl | omega | (simp only [List.length_nil]; omega)
       ·
        exact Nat.le_of_ble_eq_true rfl
     ·
      have h459 := of_decide_eq_false h230
      refine wpf_seq_region ?_
      refine wpo_eql (q := decide (k = 3)) rfl rfl rfl rfl ?_
      refine wpo_assign (v := .bool (decide (k = 3))) rfl rfl ?_
      refine wpo_nil ?_
      refine wpf_cond rfl (fun h460 => ?_) (fun h460 => ?_)
      ·
       have h461 := of_decide_eq_true h460
       refine wpf_region ?_
       refine wpo_move (v := .pointer (some ⟨R, 0, none⟩)) rfl rfl ?_
       have k462 := ((k136.grown0 hN135.grw).gn hS140.grw)
       refine wpo_call (vs := [.pointer (some ⟨R, 0, none⟩), .int .i64 24]) gf_26 (args_cons rfl (args_cons rfl args_nil)) rfl (pick_c p107 24 (by omega) _ R bs _ _ _ k462 (by omega) (SlLt.low1 hs hb141 hlo) (by first | exact hb | exact fun b h => hb b (List.mem_of_mem_take h)) (by first | omega | (rw [List.length_take]; omega))) ?_
       rintro _ w468 ⟨k463, rfl, hk464, hk465, kR466, hg467⟩
       have hb469 := grown_trans hb141 hg467
       refine wpo_sub (c := k463 - 4) rfl rfl (by omega) (by omega) (by omega) rfl ?_
       refine wpo_fieldAddr (o' := 4) fo_31_3 rfl rfl rfl ?_
       have k470 := (hS140.blk.gn hg467)
       refine wpo_store1 (v := .int .i64 (k463 - 4)) (cs' := #[.int .i64 k, .int .i64 l106.s, .int .i64 l106.v, .int .i64 0, .int .i64 (k463 - 4), .slice (some ⟨B124, 0, none⟩) 4 cap125, .slice (some ⟨B128, 0, none⟩) 0 cap129, .int .i64 to]) ot_3 rfl rfl rfl k470 (Nat.le_of_ble_eq_true rfl) rfl ?_
       intro w471 hS472
       have hb473 := low1 hb469 hS472.grw (by omega)
       refine wpo_nil ?_
       refine blk_n ?_
       refine thn_n ?_
       refine wpf_seq_region ?_
       refine wpo_loadn (vs := [.int .i64 k, .int .i64 l106.s, .int .i64 l106.v, .int .i64 0, .int .i64 (k463 - 4), .slice (some ⟨B124, 0, none⟩) 4 cap125, .slice (some ⟨B128, 0, none⟩) 0 cap129, .int .i64 to]) rt_31 rfl rfl (hS472.blk.rangeL 0 8 rfl) rfl ?_
       have k474 := ((((k137.grown0 hN135.grw).gn hS140.grw).gn hg467).gn hS472.grw)
       refine wpo_storen (vs := [.int .i64 k, .int .i64 l106.s, .int .i64 l106.v, .int .i64 0, .int .i64 (k463 - 4), .slice (some ⟨B124, 0, none⟩) 4 cap125, .slice (some ⟨B128, 0, none⟩) 0 cap129, .int .i64 to]) (cs' := #[.int .i64 k, .int .i64 l106.s, .int .i64 l106.v, .int .i64 0, .int .i64 (k463 - 4), .slice (some ⟨B124, 0, none⟩) 4 cap125, .slice (some ⟨B128, 0, none⟩) 0 cap129, .int .i64 to]) rt_31 rfl rfl rfl (by simp [Value.oneCell']) k474 (Nat.le_of_ble_eq_true rfl) rfl ?_
       intro w475 hS476
       have hb477 := low1 hb473 hS476.grw (by omega)
       refine wpo_nil ?_
       refine wpf_ret ?_
       have k478 := (((((hO131.grown0 hN135.grw).gn hS140.grw).gn hg467).gn hS472.grw).gn hS476.grw)
       have k479 := (((((hO127.grown0 hN135.grw).gn hS140.grw).gn hg467).gn hS472.grw).gn hS476.grw)
       have k480 := ((kR466.gn hS472.grw).gn hS476.grw)
       refine ⟨.agg #[.int .i64 k, .int .i64 l106.s, .int .i64 l106.v, .int .i64 0, .int .i64 (k463 - 4), .slice (some ⟨B124, 0, none⟩) 4 cap125, .slice (some ⟨B128, 0, none⟩) 0 cap129, .int .i64 to], resC rfl (resCell_mk (vs := [.int .i64 k, .int .i64 l106.s, .int .i64 l106.v, .int .i64 0, .int .i64 (k463 - 4), .slice (some ⟨B124, 0, none⟩) 4 cap125, .slice (some ⟨B128, 0, none⟩) 0 cap129, .int .i64 to]) rt_31 rfl rfl (hS476.blk.rangeL 0 8 rfl)), ⟨⟨k, l106, 0, k463 - 4, zeros4, ([] : List Int), to⟩, some ⟨B124, 0, none⟩, cap125, some ⟨B128, 0, none⟩, cap129⟩, (p107 + 1), rfl, ⟨OwnN.of k478 hlB128, ⟨zeros4, OwnN.of k479 hlB124, rfl, ?_⟩, ?_, ?_, ⟨show (0 : Int) ≤ 0 by omega, show 0 ≤ (1 : Int) by omega⟩⟩, by omega, by omega, k480, hb477⟩
       ·
        intro x hx; first | (simp [zeros4] at hx; subst hx; exact ⟨by decide, by decide, by decide, by decide⟩) | simp at hx
       ·
        first | exact Nat.le_of_ble_eq_true rfl | omega | (simp only [List.length_nil]; omega)
       ·
        exact Nat.le_of_ble_eq_true rfl
      ·
       have h481 := of_decide_eq_false h460
       refine wpf_skip ?_
       refine blk_n ?_
       refine thn_n ?_
       refine wpf_seq_region ?_
       refine wpo_loadn (vs := [.int .i64 k, .int .i64 l106.s, .int .i64 l106.v, .int .i64 0, .int .i64 0, .slice (some ⟨B124, 0, none⟩) 4 cap125, .slice (some ⟨B128, 0, none⟩) 0 cap129, .int .i64 to]) rt_31 rfl rfl (hS140.blk.rangeL 0 8 rfl) rfl ?_
       have k482 := ((k137.grown0 hN135.grw).gn hS140.grw)
       refine wpo_storen (vs := [.int .i64 k, .int .i64 l106.s, .int .i64 l106.v, .int .i64 0, .int .i64 0, .slice (some ⟨B124, 0, none⟩) 4 cap125, .slice (some ⟨B128, 0, none⟩) 0 cap129, .int .i64 to]) (cs' := #[.int .i64 k, .int .i64 l106.s, .int .i64 l106.v, .int .i64 0, .int .i64 0, .slice (some ⟨B124, 0, none⟩) 4 cap125, .slice (some ⟨B128, 0, none⟩) 0 cap129, .int .i64 to]) rt_31 rfl rfl rfl (by simp [Value.oneCell']) k482 (Nat.le_of_ble_eq_true rfl) rfl ?_
       intro w483 hS484
       have hb485 := low1 hb141 hS484.grw (by omega)
       refine wpo_nil ?_
       refine wpf_ret ?_
       have k486 := (((hO131.grown0 hN135.grw).gn hS140.grw).gn hS484.grw)
       have k487 := (((hO127.grown0 hN135.grw).gn hS140.grw).gn hS484.grw)
       have k488 := (((k136.grown0 hN135.grw).gn hS140.grw).gn hS484.grw)
       refine ⟨.agg #[.int .i64 k, .int .i64 l106.s, .int .i64 l106.v, .int .i64 0, .int .i64 0, .slice (some ⟨B124, 0, none⟩) 4 cap125, .slice (some ⟨B128, 0, none⟩) 0 cap129, .int .i64 to], resC rfl (resCell_mk (vs := [.int .i64 k, .int .i64 l106.s, .int .i64 l106.v, .int .i64 0, .int .i64 0, .slice (some ⟨B124, 0, none⟩) 4 cap125, .slice (some ⟨B128, 0, none⟩) 0 cap129, .int .i64 to]) rt_31 rfl rfl (hS484.blk.rangeL 0 8 rfl)), ⟨⟨k, l106, 0, 0, zeros4, ([] : List Int), to⟩, some ⟨B124, 0, none⟩, cap125, some ⟨B128, 0, none⟩, cap129⟩, p107, rfl, ⟨OwnN.of k486 hlB128, ⟨zeros4, OwnN.of k487 hlB124, rfl, ?_⟩, ?_, ?_, ⟨show (0 : Int) ≤ 0 by omega, show 0 ≤ (1 : Int) by omega⟩⟩, by omega, by omega, k488, hb485⟩
       ·
        intro x hx; first | (simp [zeros4] at hx; subst hx; exact ⟨by decide, by decide, by decide, by decide⟩) | simp at hx
       ·
        first | exact Nat.le_of_ble_eq_true rfl | omega | (simp only [List.length_nil]; omega)
       ·
        exact Nat.le_of_ble_eq_true rfl
  ·
   have k489 := (hN103.blk.gn hg115)
   have h490 : thingOk (⟨k, l106, 0, 0, zeros4, [], to⟩ : Th) = false := (newOk_y h118).symm.trans h119
   refine wpo_call (vs := [.int .i64 k, .agg #[.int .i64 l106.s, .int .i64 l106.v], .int .i64 to]) gf_55 (args_cons rfl (args_cons rfl (args_cons rfl args_nil))) rfl (sThingNew_yf k to l106 h118 h119 _) ?_
   rintro _ w491 ⟨rfl, hg492⟩
   have hb493 := low0 hb117 hg492
   refine wpo_move (v := .tuple #[.agg #[.int .i64 0, .int .i64 0, .int .i64 0, .int .i64 0, .int .i64 0, .slice none 0 0, .slice none 0 0, .int .i64 0], .bool false]) rfl rfl ?_
   refine wpo_extract (v := .agg #[.int .i64 0, .int .i64 0, .int .i64 0, .int .i64 0, .int .i64 0, .slice none 0 0, .slice none 0 0, .int .i64 0]) rfl rfl rfl ?_
   refine wpo_extract (v := .bool false) rfl rfl rfl ?_
   refine wpo_alloc (cs := #[.int .i64 0, .int .i64 0, .int .i64 0, .int .i64 0, .int .i64 0, .slice none 0 0, .slice none 0 0, .int .i64 0]) zt_31 rfl rfl ?_
   intro B494 w495 hN496
   have hlB494 := hN_ge hN496 hb493
   have k497 := (kR114.grown0 hg492)
   have lt_R_B494 := hN_gtl hN496 (k497).lt
   have k498 := (k489.grown0 hg492)
   have lt_B101_B494 := hN_gtl hN496 (k498).lt
   have hb499 := low0 hb493 hN496.grw
   refine wpo_storen (vs := [.int .i64 0, .int .i64 0, .int .i64 0, .int .i64 0, .int .i64 0, .slice none 0 0, .slice none 0 0, .int .i64 0]) (cs' := #[.int .i64 0, .int .i64 0, .int .i64 0, .int .i64 0, .int .i64 0, .slice none 0 0, .slice none 0 0, .int .i64 0]) rt_31 rfl rfl rfl (by simp [Value.oneCell']) hN496.blk (Nat.le_of_ble_eq_true rfl) rfl ?_
   intro w500 hS501
   have hb502 := low1 hb499 hS501.grw (by omega)
   refine wpo_assign (v := .bool false) rfl rfl ?_
   refine wpo_nil ?_
   refine wpf_seq ?_
   refine wpf_seq_region ?_
   refine wpo_fieldAddr (o' := 0) fo_31_0 rfl rfl rfl ?_
   refine wpo_load1 (v := .int .i64 0) ot_3 rfl (hS501.blk.cell rfl) rfl ?_
   refine wpo_eql (q := true) rfl rfl (by decide) rfl ?_
   refine wpo_nil ?_
   refine wpf_condt rfl rfl ?_
   refine wpf_region ?_
   refine wpo_build (ps := []) (v := .agg #[.int .i64 0, .int .i64 0]) parts_nil (by kernel_rfl) rfl ?_
   have k503 := ((k497.grown0 hN496.grw).gn hS501.grw)
   have k504 := ((k498.grown0 hN496.grw).gn hS501.grw)
   have h505 : thingOk (⟨1, ⟨0, 0⟩, 0, 0, [], [], 0⟩ : Th) = true := (newOk_n (by decide)).symm.trans (by decide)
   refine wpo_call (vs := [.int .i64 1, .agg #[.int .i64 0, .int .i64 0], .int .i64 0]) gf_55 (args_cons rfl (args_cons rfl (args_cons rfl args_nil))) rfl (sThingNew_nt 1 0 ⟨0, 0⟩ (by decide) (by decide) _) ?_
   rintro _ w506 ⟨B508, cap509, B512, cap513, rfl, hge510, hO511, hge514, hO515, ne_B508_B512, hg507⟩
   have hb516 := low0 hb502 hg507
   have hlB508 := Nat.le_trans hb502.size hge510
   have lt_R_B508 := Nat.lt_of_lt_of_le (k503).lt hge510
   have lt_B101_B508 := Nat.lt_of_lt_of_le (k504).lt hge510
   have lt_B494_B508 := Nat.lt_of_lt_of_le (hS501.blk).lt hge510
   have hlB512 := Nat.le_trans hb502.size hge514
   have lt_R_B512 := Nat.lt_of_lt_of_le (k503).lt hge514
   have lt_B101_B512 := Nat.lt_of_lt_of_le (k504).lt hge514
   have lt_B494_B512 := Nat.lt_of_lt_of_le (hS501.blk).lt hge514
   refine wpo_move (v := .tuple #[.agg #[.int .i64 1, .int .i64 0, .int .i64 0, .int .i64 0, .int .i64 0, .slice (some ⟨B508, 0, none⟩) 0 cap509, .slice (some ⟨B512, 0, none⟩) 0 cap513, .int .i64 0], .bool true]) rfl rfl ?_
   refine wpo_extract (v := .agg #[.int .i64 1, .int .i64 0, .int .i64 0, .int .i64 0, .int .i64 0, .slice (some ⟨B508, 0, none⟩) 0 cap509, .slice (some ⟨B512, 0, none⟩) 0 cap513, .int .i64 0]) rfl rfl rfl ?_
   refine wpo_extract (v := .bool true) rfl rfl rfl ?_
   have k517 := (hS501.blk.grown0 hg507)
   refine wpo_storen (vs := [.int .i64 1, .int .i64 0, .int .i64 0, .int .i64 0, .int .i64 0, .slice (some ⟨B508, 0, none⟩) 0 cap509, .slice (some ⟨B512, 0, none⟩) 0 cap513, .int .i64 0]) (cs' := #[.int .i64 1, .int .i64 0, .int .i64 0, .int .i64 0, .int .i64 0, .slice (some ⟨B508, 0, none⟩) 0 cap509, .slice (some ⟨B512, 0, none⟩) 0 cap513, .int .i64 0]) rt_31 rfl rfl rfl (by simp [Value.oneCell']) k517 (Nat.le_of_ble_eq_true rfl) rfl ?_
   intro w518 hS519
   have hb520 := low1 hb516 hS519.grw (by omega)
   refine wpo_nil ?_
   refine thn_n ?_
   refine wpf_seq ?_
   refine wpf_seq_region ?_
   refine wpo_fieldAddr (o' := 0) fo_31_0 rfl rfl rfl ?_
   refine wpo_load1 (v := .int .i64 1) ot_3 rfl (hS519.blk.cell rfl) rfl ?_
   refine wpo_nil ?_
   refine wpf_block ?_
   refine wpf_seq_region ?_
   refine wpo_eql (q := true) rfl rfl (by decide) rfl ?_
   refine wpo_assign (v := .bool true) rfl rfl ?_
   refine wpo_nil ?_
   refine wpf_condt rfl rfl ?_
   refine wpf_seq_region ?_
   refine wpo_move (v := .pointer (some ⟨R, 0, none⟩)) rfl rfl ?_
   have k521 := ((k503.grown0 hg507).gn hS519.grw)
   refine wpo_call (vs := [.pointer (some ⟨R, 0, none⟩), .int .i64 20]) gf_26 (args_cons rfl (args_cons rfl args_nil)) rfl (pick_c p107 20 (by omega) _ R bs _ _ _ k521 (by omega) (SlLt.low1 hs hb520 hlo) (by first | exact hb | exact fun b h => hb b (List.mem_of_mem_take h)) (by first | omega | (rw [List.length_take]; omega))) ?_
   rintro _ w527 ⟨k522, rfl, hk523, hk524, kR525, hg526⟩
   have hb528 := grown_trans hb520 hg526
   refine wpo_fieldAddr (o' := 4) fo_31_3 rfl rfl rfl ?_
   have k529 := (hS519.blk.gn hg526)
   refine wpo_store1 (v := .int .i64 k522) (cs' := #[.int .i64 1, .int .i64 0, .int .i64 0, .int .i64 0, .int .i64 k522, .slice (some ⟨B508, 0, none⟩) 0 cap509, .slice (some ⟨B512, 0, none⟩) 0 cap513, .int .i64 0]) ot_3 rfl rfl rfl k529 (Nat.le_of_ble_eq_true rfl) rfl ?_
   intro w530 hS531
   have hb532 := low1 hb528 hS531.grw (by omega)
   refine wpo_nil ?_
   refine wpf_region ?_
   refine wpo_move (v := .pointer (some ⟨R, 0, none⟩)) rfl rfl ?_
   have k533 := (kR525.gn hS531.grw)
   refine wpo_call (vs := [.pointer (some ⟨R, 0, none⟩), .int .i64 3]) gf_26 (args_cons rfl (args_cons rfl args_nil)) rfl (pick_c (p107 + 1) 3 (by omega) _ R bs _ _ _ k533 (by omega) (SlLt.low1 hs hb532 hlo) (by first | exact hb | exact fun b h => hb b (List.mem_of_mem_take h)) (by first | omega | (rw [List.length_take]; omega))) ?_
   rintro _ w539 ⟨k534, rfl, hk535, hk536, kR537, hg538⟩
   have hb540 := grown_trans hb532 hg538
   refine wpo_quo (c := k534 / 2) rfl rfl (by omega) (by omega) (by omega) rfl rfl ?_
   refine wpo_fieldAddr (o' := 3) fo_31_2 rfl rfl rfl ?_
   have k541 := (hS531.blk.gn hg538)
   refine wpo_store1 (v := .int .i64 (k534 / 2)) (cs' := #[.int .i64 1, .int .i64 0, .int .i64 0, .int .i64 (k534 / 2), .int .i64 k522, .slice (some ⟨B508, 0, none⟩) 0 cap509, .slice (some ⟨B512, 0, none⟩) 0 cap513, .int .i64 0]) ot_3 rfl rfl rfl k541 (Nat.le_of_ble_eq_true rfl) rfl ?_
   intro w542 hS543
   have hb544 := low1 hb540 hS543.grw (by omega)
   refine wpo_nil ?_
   refine blk_n ?_
   refine thn_n ?_
   refine wpf_seq_region ?_
   refine wpo_loadn (vs := [.int .i64 1, .int .i64 0, .int .i64 0, .int .i64 (k534 / 2), .int .i64 k522, .slice (some ⟨B508, 0, none⟩) 0 cap509, .slice (some ⟨B512, 0, none⟩) 0 cap513, .int .i64 0]) rt_31 rfl rfl (hS543.blk.rangeL 0 8 rfl) rfl ?_
   have k545 := ((((((k504.grown0 hg507).gn hS519.grw).gn hg526).gn hS531.grw).gn hg538).gn hS543.grw)
   refine wpo_storen (vs := [.int .i64 1, .int .i64 0, .int .i64 0, .int .i64 (k534 / 2), .int .i64 k522, .slice (some ⟨B508, 0, none⟩) 0 cap509, .slice (some ⟨B512, 0, none⟩) 0 cap513, .int .i64 0]) (cs' := #[.int .i64 1, .int .i64 0, .int .i64 0, .int .i64 (k534 / 2), .int .i64 k522, .slice (some ⟨B508, 0, none⟩) 0 cap509, .slice (some ⟨B512, 0, none⟩) 0 cap513, .int .i64 0]) rt_31 rfl rfl rfl (by simp [Value.oneCell']) k545 (Nat.le_of_ble_eq_true rfl) rfl ?_
   intro w546 hS547
   have hb548 := low1 hb544 hS547.grw (by omega)
   refine wpo_nil ?_
   refine wpf_ret ?_
   have k549 := ((((((hO515.gn hS519.grw).gn hg526).gn hS531.grw).gn hg538).gn hS543.grw).gn hS547.grw)
   have k550 := ((((((hO511.gn hS519.grw).gn hg526).gn hS531.grw).gn hg538).gn hS543.grw).gn hS547.grw)
   have k551 := ((kR537.gn hS543.grw).gn hS547.grw)
   refine ⟨.agg #[.int .i64 1, .int .i64 0, .int .i64 0, .int .i64 (k534 / 2), .int .i64 k522, .slice (some ⟨B508, 0, none⟩) 0 cap509, .slice (some ⟨B512, 0, none⟩) 0 cap513, .int .i64 0], resC rfl (resCell_mk (vs := [.int .i64 1, .int .i64 0, .int .i64 0, .int .i64 (k534 / 2), .int .i64 k522, .slice (some ⟨B508, 0, none⟩) 0 cap509, .slice (some ⟨B512, 0, none⟩) 0 cap513, .int .i64 0]) rt_31 rfl rfl (hS547.blk.rangeL 0 8 rfl)), ⟨⟨1, ⟨0, 0⟩, k534 / 2, k522, ([] : List Rt), ([] : List Int), 0⟩, some ⟨B508, 0, none⟩, cap509, some ⟨B512, 0, none⟩, cap513⟩, (p107 + 1 + 1), rfl, ⟨OwnN.of k549 hlB512, ⟨([] : List Rt), OwnN.of k550 hlB508, rfl, ?_⟩, ?_, ?_, ⟨show (0 : Int) ≤ k534 / 2 by omega, show k534 / 2 ≤ (1 : Int) by omega⟩⟩, by omega, by omega, k551, hb548⟩
   ·
    intro x hx; first | (simp [zeros4] at hx; subst hx; exact ⟨by decide, by decide, by decide, by decide⟩) | simp at hx
   ·
    first | exact Nat.le_of_ble_eq_true rfl | omega | (simp only [List.length_nil]; omega)
   ·
    exact Nat.le_of_ble_eq_true rfl
 ·
  have h552 := or_l h118
  have h553 := of_decide_eq_false h552
  have h554 := or_r h118
  have h555 := of_decide_eq_false h554
  rcases bcases (newOk k l106 to) with h556 | h556
  ·
   have k557 := (hN103.blk.gn hg115)
   have h558 : thingOk (⟨k, l106, 0, 0, [], [], to⟩ : Th) = true := (newOk_n h118).symm.trans h556
   refine wpo_call (vs := [.int .i64 k, .agg #[.int .i64 l106.s, .int .i64 l106.v], .int .i64 to]) gf_55 (args_cons rfl (args_cons rfl (args_cons rfl args_nil))) rfl (sThingNew_nt k to l106 h118 h556 _) ?_
   rintro _ w559 ⟨B561, cap562, B565, cap566, rfl, hge563, hO564, hge567, hO568, ne_B561_B565, hg560⟩
   have hb569 := low0 hb117 hg560
   have hlB561 := Nat.le_trans hb117.size hge563
   have lt_R_B561 := Nat.lt_of_lt_of_le (kR114).lt hge563
   have lt_B101_B561 := Nat.lt_of_lt_of_le (k557).lt hge563
   have hlB565 := Nat.le_trans hb117.size hge567
   have lt_R_B565 := Nat.lt_of_lt_of_le (kR114).lt hge567
   have lt_B101_B565 := Nat.lt_of_lt_of_le (k557).lt hge567
   refine wpo_move (v := .tuple #[.agg #[.int .i64 k, .int .i64 l106.s, .int .i64 l106.v, .int .i64 0, .int .i64 0, .slice (some ⟨B561, 0, none⟩) 0 cap562, .slice (some ⟨B565, 0, none⟩) 0 cap566, .int .i64 to], .bool true]) rfl rfl ?_
   refine wpo_extract (v := .agg #[.int .i64 k, .int .i64 l106.s, .int .i64 l106.v, .int .i64 0, .int .i64 0, .slice (some ⟨B561, 0, none⟩) 0 cap562, .slice (some ⟨B565, 0, none⟩) 0 cap566, .int .i64 to]) rfl rfl rfl ?_
   refine wpo_extract (v := .bool true) rfl rfl rfl ?_
   refine wpo_alloc (cs := #[.int .i64 0, .int .i64 0, .int .i64 0, .int .i64 0, .int .i64 0, .slice none 0 0, .slice none 0 0, .int .i64 0]) zt_31 rfl rfl ?_
   intro B570 w571 hN572
   have hlB570 := hN_ge hN572 hb569
   have k573 := (kR114.grown0 hg560)
   have lt_R_B570 := hN_gtl hN572 (k573).lt
   have k574 := (k557.grown0 hg560)
   have lt_B101_B570 := hN_gtl hN572 (k574).lt
   have lt_B565_B570 := hN_gtl hN572 (hO568).lt
   have lt_B561_B570 := hN_gtl hN572 (hO564).lt
   have hb575 := low0 hb569 hN572.grw
   refine wpo_storen (vs := [.int .i64 k, .int .i64 l106.s, .int .i64 l106.v, .int .i64 0, .int .i64 0, .slice (some ⟨B561, 0, none⟩) 0 cap562, .slice (some ⟨B565, 0, none⟩) 0 cap566, .int .i64 to]) (cs' := #[.int .i64 k, .int .i64 l106.s, .int .i64 l106.v, .int .i64 0, .int .i64 0, .slice (some ⟨B561, 0, none⟩) 0 cap562, .slice (some ⟨B565, 0, none⟩) 0 cap566, .int .i64 to]) rt_31 rfl rfl rfl (by simp [Value.oneCell']) hN572.blk (Nat.le_of_ble_eq_true rfl) rfl ?_
   intro w576 hS577
   have hb578 := low1 hb575 hS577.grw (by omega)
   refine wpo_assign (v := .bool true) rfl rfl ?_
   refine wpo_nil ?_
   refine wpf_seq ?_
   refine wpf_seq_region ?_
   refine wpo_fieldAddr (o' := 0) fo_31_0 rfl rfl rfl ?_
   refine wpo_load1 (v := .int .i64 k) ot_3 rfl (hS577.blk.cell rfl) rfl ?_
   refine wpo_eql (q := decide (k = 0)) rfl rfl rfl rfl ?_
   refine wpo_nil ?_
   refine wpf_cond rfl (fun h579 => ?_) (fun h579 => ?_)
   ·
    have h580 := of_decide_eq_true h579
    refine wpf_region ?_
    refine wpo_build (ps := []) (v := .agg #[.int .i64 0, .int .i64 0]) parts_nil (by kernel_rfl) rfl ?_
    have k581 := ((k573.grown0 hN572.grw).gn hS577.grw)
    have k582 := ((k574.grown0 hN572.grw).gn hS577.grw)
    have k583 := ((hO568.grown0 hN572.grw).gn hS577.grw)
    have k584 := ((hO564.grown0 hN572.grw).gn hS577.grw)
    have h585 : thingOk (⟨1, ⟨0, 0⟩, 0, 0, [], [], 0⟩ : Th) = true := (newOk_n (by decide)).symm.trans (by decide)
    refine wpo_call (vs := [.int .i64 1, .agg #[.int .i64 0, .int .i64 0], .int .i64 0]) gf_55 (args_cons rfl (args_cons rfl (args_cons rfl args_nil))) rfl (sThingNew_nt 1 0 ⟨0, 0⟩ (by decide) (by decide) _) ?_
    rintro _ w586 ⟨B588, cap589, B592, cap593, rfl, hge590, hO591, hge594, hO595, ne_B588_B592, hg587⟩
    have hb596 := low0 hb578 hg587
    have hlB588 := Nat.le_trans hb578.size hge590
    have lt_R_B588 := Nat.lt_of_lt_of_le (k581).lt hge590
    have lt_B101_B588 := Nat.lt_of_lt_of_le (k582).lt hge590
    have lt_B565_B588 := Nat.lt_of_lt_of_le (k583).lt hge590
    have lt_B561_B588 := Nat.lt_of_lt_of_le (k584).lt hge590
    have lt_B570_B588 := Nat.lt_of_lt_of_le (hS577.blk).lt hge590
    have hlB592 := Nat.le_trans hb578.size hge594
    have lt_R_B592 := Nat.lt_of_lt_of_le (k581).lt hge594
    have lt_B101_B592 := Nat.lt_of_lt_of_le (k582).lt hge594
    have lt_B565_B592 := Nat.lt_of_lt_of_le (k583).lt hge594
    have lt_B561_B592 := Nat.lt_of_lt_of_le (k584).lt hge594
    have lt_B570_B592 := Nat.lt_of_lt_of_le (hS577.blk).lt hge594
    refine wpo_move (v := .tuple #[.agg #[.int .i64 1, .int .i64 0, .int .i64 0, .int .i64 0, .int .i64 0, .slice (some ⟨B588, 0, none⟩) 0 cap589, .slice (some ⟨B592, 0, none⟩) 0 cap593, .int .i64 0], .bool true]) rfl rfl ?_
    refine wpo_extract (v := .agg #[.int .i64 1, .int .i64 0, .int .i64 0, .int .i64 0, .int .i64 0, .slice (some ⟨B588, 0, none⟩) 0 cap589, .slice (some ⟨B592, 0, none⟩) 0 cap593, .int .i64 0]) rfl rfl rfl ?_
    refine wpo_extract (v := .bool true) rfl rfl rfl ?_
    have k597 := (hS577.blk.grown0 hg587)
    refine wpo_storen (vs := [.int .i64 1, .int .i64 0, .int .i64 0, .int .i64 0, .int .i64 0, .slice (some ⟨B588, 0, none⟩) 0 cap589, .slice (some ⟨B592, 0, none⟩) 0 cap593, .int .i64 0]) (cs' := #[.int .i64 1, .int .i64 0, .int .i64 0, .int .i64 0, .int .i64 0, .slice (some ⟨B588, 0, none⟩) 0 cap589, .slice (some ⟨B592, 0, none⟩) 0 cap593, .int .i64 0]) rt_31 rfl rfl rfl (by simp [Value.oneCell']) k597 (Nat.le_of_ble_eq_true rfl) rfl ?_
    intro w598 hS599
    have hb600 := low1 hb596 hS599.grw (by omega)
    refine wpo_nil ?_
    refine thn_n ?_
    refine wpf_seq ?_
    refine wpf_seq_region ?_
    refine wpo_fieldAddr (o' := 0) fo_31_0 rfl rfl rfl ?_
    refine wpo_load1 (v := .int .i64 1) ot_3 rfl (hS599.blk.cell rfl) rfl ?_
    refine wpo_nil ?_
    refine wpf_block ?_
    refine wpf_seq_region ?_
    refine wpo_eql (q := true) rfl rfl (by decide) rfl ?_
    refine wpo_assign (v := .bool true) rfl rfl ?_
    refine wpo_nil ?_
    refine wpf_condt rfl rfl ?_
    refine wpf_seq_region ?_
    refine wpo_move (v := .pointer (some ⟨R, 0, none⟩)) rfl rfl ?_
    have k601 := ((k581.grown0 hg587).gn hS599.grw)
    refine wpo_call (vs := [.pointer (some ⟨R, 0, none⟩), .int .i64 20]) gf_26 (args_cons rfl (args_cons rfl args_nil)) rfl (pick_c p107 20 (by omega) _ R bs _ _ _ k601 (by omega) (SlLt.low1 hs hb600 hlo) (by first | exact hb | exact fun b h => hb b (List.mem_of_mem_take h)) (by first | omega | (rw [List.length_take]; omega))) ?_
    rintro _ w607 ⟨k602, rfl, hk603, hk604, kR605, hg606⟩
    have hb608 := grown_trans hb600 hg606
    refine wpo_fieldAddr (o' := 4) fo_31_3 rfl rfl rfl ?_
    have k609 := (hS599.blk.gn hg606)
    refine wpo_store1 (v := .int .i64 k602) (cs' := #[.int .i64 1, .int .i64 0, .int .i64 0, .int .i64 0, .int .i64 k602, .slice (some ⟨B588, 0, none⟩) 0 cap589, .slice (some ⟨B592, 0, none⟩) 0 cap593, .int .i64 0]) ot_3 rfl rfl rfl k609 (Nat.le_of_ble_eq_true rfl) rfl ?_
    intro w610 hS611
    have hb612 := low1 hb608 hS611.grw (by omega)
    refine wpo_nil ?_
    refine wpf_region ?_
    refine wpo_move (v := .pointer (some ⟨R, 0, none⟩)) rfl rfl ?_
    have k613 := (kR605.gn hS611.grw)
    refine wpo_call (vs := [.pointer (some ⟨R, 0, none⟩), .int .i64 3]) gf_26 (args_cons rfl (args_cons rfl args_nil)) rfl (pick_c (p107 + 1) 3 (by omega) _ R bs _ _ _ k613 (by omega) (SlLt.low1 hs hb612 hlo) (by first | exact hb | exact fun b h => hb b (List.mem_of_mem_take h)) (by first | omega | (rw [List.length_take]; omega))) ?_
    rintro _ w619 ⟨k614, rfl, hk615, hk616, kR617, hg618⟩
    have hb620 := grown_trans hb612 hg618
    refine wpo_quo (c := k614 / 2) rfl rfl (by omega) (by omega) (by omega) rfl rfl ?_
    refine wpo_fieldAddr (o' := 3) fo_31_2 rfl rfl rfl ?_
    have k621 := (hS611.blk.gn hg618)
    refine wpo_store1 (v := .int .i64 (k614 / 2)) (cs' := #[.int .i64 1, .int .i64 0, .int .i64 0, .int .i64 (k614 / 2), .int .i64 k602, .slice (some ⟨B588, 0, none⟩) 0 cap589, .slice (some ⟨B592, 0, none⟩) 0 cap593, .int .i64 0]) ot_3 rfl rfl rfl k621 (Nat.le_of_ble_eq_true rfl) rfl ?_
    intro w622 hS623
    have hb624 := low1 hb620 hS623.grw (by omega)
    refine wpo_nil ?_
    refine blk_n ?_
    refine thn_n ?_
    refine wpf_seq_region ?_
    refine wpo_loadn (vs := [.int .i64 1, .int .i64 0, .int .i64 0, .int .i64 (k614 / 2), .int .i64 k602, .slice (some ⟨B588, 0, none⟩) 0 cap589, .slice (some ⟨B592, 0, none⟩) 0 cap593, .int .i64 0]) rt_31 rfl rfl (hS623.blk.rangeL 0 8 rfl) rfl ?_
    have k625 := ((((((k582.grown0 hg587).gn hS599.grw).gn hg606).gn hS611.grw).gn hg618).gn hS623.grw)
    refine wpo_storen (vs := [.int .i64 1, .int .i64 0, .int .i64 0, .int .i64 (k614 / 2), .int .i64 k602, .slice (some ⟨B588, 0, none⟩) 0 cap589, .slice (some ⟨B592, 0, none⟩) 0 cap593, .int .i64 0]) (cs' := #[.int .i64 1, .int .i64 0, .int .i64 0, .int .i64 (k614 / 2), .int .i64 k602, .slice (some ⟨B588, 0, none⟩) 0 cap589, .slice (some ⟨B592, 0, none⟩) 0 cap593, .int .i64 0]) rt_31 rfl rfl rfl (by simp [Value.oneCell']) k625 (Nat.le_of_ble_eq_true rfl) rfl ?_
    intro w626 hS627
    have hb628 := low1 hb624 hS627.grw (by omega)
    refine wpo_nil ?_
    refine wpf_ret ?_
    have k629 := ((((((hO595.gn hS599.grw).gn hg606).gn hS611.grw).gn hg618).gn hS623.grw).gn hS627.grw)
    have k630 := ((((((hO591.gn hS599.grw).gn hg606).gn hS611.grw).gn hg618).gn hS623.grw).gn hS627.grw)
    have k631 := ((kR617.gn hS623.grw).gn hS627.grw)
    refine ⟨.agg #[.int .i64 1, .int .i64 0, .int .i64 0, .int .i64 (k614 / 2), .int .i64 k602, .slice (some ⟨B588, 0, none⟩) 0 cap589, .slice (some ⟨B592, 0, none⟩) 0 cap593, .int .i64 0], resC rfl (resCell_mk (vs := [.int .i64 1, .int .i64 0, .int .i64 0, .int .i64 (k614 / 2), .int .i64 k602, .slice (some ⟨B588, 0, none⟩) 0 cap589, .slice (some ⟨B592, 0, none⟩) 0 cap593, .int .i64 0]) rt_31 rfl rfl (hS627.blk.rangeL 0 8 rfl)), ⟨⟨1, ⟨0, 0⟩, k614 / 2, k602, ([] : List Rt), ([] : List Int), 0⟩, some ⟨B588, 0, none⟩, cap589, some ⟨B592, 0, none⟩, cap593⟩, (p107 + 1 + 1), rfl, ⟨OwnN.of k629 hlB592, ⟨([] : List Rt), OwnN.of k630 hlB588, rfl, ?_⟩, ?_, ?_, ⟨show (0 : Int) ≤ k614 / 2 by omega, show k614 / 2 ≤ (1 : Int) by omega⟩⟩, by omega, by omega, k631, hb628⟩
    ·
     intro x hx; first | (simp [zeros4] at hx; subst hx; exact ⟨by decide, by decide, by decide, by decide⟩) | simp at hx
    ·
     first | exact Nat.le_of_ble_eq_true rfl | omega | (simp only [List.length_nil]; omega)
    ·
     exact Nat.le_of_ble_eq_true rfl
   ·
    have h632 := of_decide_eq_false h579
    refine wpf_skip ?_
    refine thn_n ?_
    refine wpf_seq ?_
    refine wpf_seq_region ?_
    refine wpo_fieldAddr (o' := 0) fo_31_0 rfl rfl rfl ?_
    refine wpo_load1 (v := .int .i64 k) ot_3 rfl (hS577.blk.cell rfl) rfl ?_
    refine wpo_nil ?_
    refine wpf_block ?_
    refine wpf_seq_region ?_
    refine wpo_eql (q := decide (k = 1)) rfl rfl rfl rfl ?_
    refine wpo_assign (v := .bool (decide (k = 1))) rfl rfl ?_
    refine wpo_nil ?_
    refine wpf_cond rfl (fun h633 => ?_) (fun h633 => ?_)
    ·
     have h634 := of_decide_eq_true h633
     refine wpf_seq_region ?_
     refine wpo_move (v := .pointer (some ⟨R, 0, none⟩)) rfl rfl ?_
     have k635 := ((k573.grown0 hN572.grw).gn hS577.grw)
     refine wpo_call (vs := [.pointer (some ⟨R, 0, none⟩), .int .i64 20]) gf_26 (args_cons rfl (args_cons rfl args_nil)) rfl (pick_c p107 20 (by omega) _ R bs _ _ _ k635 (by omega) (SlLt.low1 hs hb578 hlo) (by first | exact hb | exact fun b h => hb b (List.mem_of_mem_take h)) (by first | omega | (rw [List.length_take]; omega))) ?_
     rintro _ w641 ⟨k636, rfl, hk637, hk638, kR639, hg640⟩
     have hb642 := grown_trans hb578 hg640
     refine wpo_fieldAddr (o' := 4) fo_31_3 rfl rfl rfl ?_
     have k643 := (hS577.blk.gn hg640)
     refine wpo_store1 (v := .int .i64 k636) (cs' := #[.int .i64 k, .int .i64 l106.s, .int .i64 l106.v, .int .i64 0, .int .i64 k636, .slice (some ⟨B561, 0, none⟩) 0 cap562, .slice (some ⟨B565, 0, none⟩) 0 cap566, .int .i64 to]) ot_3 rfl rfl rfl k643 (Nat.le_of_ble_eq_true rfl) rfl ?_
     intro w644 hS645
     have hb646 := low1 hb642 hS645.grw (by omega)
     refine wpo_nil ?_
     refine wpf_region ?_
     refine wpo_move (v := .pointer (some ⟨R, 0, none⟩)) rfl rfl ?_
     have k647 := (kR639.gn hS645.grw)
     refine wpo_call (vs := [.pointer (some ⟨R, 0, none⟩), .int .i64 3]) gf_26 (args_cons rfl (args_cons rfl args_nil)) rfl (pick_c (p107 + 1) 3 (by omega) _ R bs _ _ _ k647 (by omega) (SlLt.low1 hs hb646 hlo) (by first | exact hb | exact fun b h => hb b (List.mem_of_mem_take h)) (by first | omega | (rw [List.length_take]; omega))) ?_
     rintro _ w653 ⟨k648, rfl, hk649, hk650, kR651, hg652⟩
     have hb654 := grown_trans hb646 hg652
     refine wpo_quo (c := k648 / 2) rfl rfl (by omega) (by omega) (by omega) rfl rfl ?_
     refine wpo_fieldAddr (o' := 3) fo_31_2 rfl rfl rfl ?_
     have k655 := (hS645.blk.gn hg652)
     refine wpo_store1 (v := .int .i64 (k648 / 2)) (cs' := #[.int .i64 k, .int .i64 l106.s, .int .i64 l106.v, .int .i64 (k648 / 2), .int .i64 k636, .slice (some ⟨B561, 0, none⟩) 0 cap562, .slice (some ⟨B565, 0, none⟩) 0 cap566, .int .i64 to]) ot_3 rfl rfl rfl k655 (Nat.le_of_ble_eq_true rfl) rfl ?_
     intro w656 hS657
     have hb658 := low1 hb654 hS657.grw (by omega)
     refine wpo_nil ?_
     refine blk_n ?_
     refine thn_n ?_
     refine wpf_seq_region ?_
     refine wpo_loadn (vs := [.int .i64 k, .int .i64 l106.s, .int .i64 l106.v, .int .i64 (k648 / 2), .int .i64 k636, .slice (some ⟨B561, 0, none⟩) 0 cap562, .slice (some ⟨B565, 0, none⟩) 0 cap566, .int .i64 to]) rt_31 rfl rfl (hS657.blk.rangeL 0 8 rfl) rfl ?_
     have k659 := ((((((k574.grown0 hN572.grw).gn hS577.grw).gn hg640).gn hS645.grw).gn hg652).gn hS657.grw)
     refine wpo_storen (vs := [.int .i64 k, .int .i64 l106.s, .int .i64 l106.v, .int .i64 (k648 / 2), .int .i64 k636, .slice (some ⟨B561, 0, none⟩) 0 cap562, .slice (some ⟨B565, 0, none⟩) 0 cap566, .int .i64 to]) (cs' := #[.int .i64 k, .int .i64 l106.s, .int .i64 l106.v, .int .i64 (k648 / 2), .int .i64 k636, .slice (some ⟨B561, 0, none⟩) 0 cap562, .slice (some ⟨B565, 0, none⟩) 0 cap566, .int .i64 to]) rt_31 rfl rfl rfl (by simp [Value.oneCell']) k659 (Nat.le_of_ble_eq_true rfl) rfl ?_
     intro w660 hS661
     have hb662 := low1 hb658 hS661.grw (by omega)
     refine wpo_nil ?_
     refine wpf_ret ?_
     have k663 := (((((((hO568.grown0 hN572.grw).gn hS577.grw).gn hg640).gn hS645.grw).gn hg652).gn hS657.grw).gn hS661.grw)
     have k664 := (((((((hO564.grown0 hN572.grw).gn hS577.grw).gn hg640).gn hS645.grw).gn hg652).gn hS657.grw).gn hS661.grw)
     have k665 := ((kR651.gn hS657.grw).gn hS661.grw)
     refine ⟨.agg #[.int .i64 k, .int .i64 l106.s, .int .i64 l106.v, .int .i64 (k648 / 2), .int .i64 k636, .slice (some ⟨B561, 0, none⟩) 0 cap562, .slice (some ⟨B565, 0, none⟩) 0 cap566, .int .i64 to], resC rfl (resCell_mk (vs := [.int .i64 k, .int .i64 l106.s, .int .i64 l106.v, .int .i64 (k648 / 2), .int .i64 k636, .slice (some ⟨B561, 0, none⟩) 0 cap562, .slice (some ⟨B565, 0, none⟩) 0 cap566, .int .i64 to]) rt_31 rfl rfl (hS661.blk.rangeL 0 8 rfl)), ⟨⟨k, l106, k648 / 2, k636, ([] : List Rt), ([] : List Int), to⟩, some ⟨B561, 0, none⟩, cap562, some ⟨B565, 0, none⟩, cap566⟩, (p107 + 1 + 1), rfl, ⟨OwnN.of k663 hlB565, ⟨([] : List Rt), OwnN.of k664 hlB561, rfl, ?_⟩, ?_, ?_, ⟨show (0 : Int) ≤ k648 / 2 by omega, show k648 / 2 ≤ (1 : Int) by omega⟩⟩, by omega, by omega, k665, hb662⟩
     ·
      intro x hx; first | (simp [zeros4] at hx; subst hx; exact ⟨by decide, by decide, by decide, by decide⟩) | simp at hx
     ·
      first | exact Nat.le_of_ble_eq_true rfl | omega | (simp only [List.length_nil]; omega)
     ·
      exact Nat.le_of_ble_eq_true rfl
    ·
     have h666 := of_decide_eq_false h633
     refine wpf_seq_region ?_
     refine wpo_eql (q := decide (k = 4)) rfl rfl rfl rfl ?_
     refine wpo_assign (v := .bool (decide (k = 4))) rfl rfl ?_
     refine wpo_nil ?_
     refine wpf_cond rfl (fun h667 => ?_) (fun h667 => ?_)
     ·
      have h668 := of_decide_eq_true h667
      refine wpf_seq_region ?_
      refine wpo_move (v := .pointer (some ⟨R, 0, none⟩)) rfl rfl ?_
      have k669 := ((k573.grown0 hN572.grw).gn hS577.grw)
      refine wpo_call (vs := [.pointer (some ⟨R, 0, none⟩), .int .i64 4]) gf_26 (args_cons rfl (args_cons rfl args_nil)) rfl (pick_c p107 4 (by omega) _ R bs _ _ _ k669 (by omega) (SlLt.low1 hs hb578 hlo) (by first | exact hb | exact fun b h => hb b (List.mem_of_mem_take h)) (by first | omega | (rw [List.length_take]; omega))) ?_
      rintro _ w675 ⟨k670, rfl, hk671, hk672, kR673, hg674⟩
      have hb676 := grown_trans hb578 hg674
      refine wpo_assign (v := .int .i64 k670) rfl rfl ?_
      refine wpo_nil ?_
      refine wpf_block ?_
      have k677 := (((hO568.grown0 hN572.grw).gn hS577.grw).gn hg674)
      have k678 := (((k574.grown0 hN572.grw).gn hS577.grw).gn hg674)
      have k679 := (((hO564.grown0 hN572.grw).gn hS577.grw).gn hg674)
      have k680 := (hS577.blk.gn hg674)
      refine wpf_loopN (fun mm f' w' => ∃ (n : Int) (p1 : Int) (Bq : Nat) (cq : Nat) (ys : List Int), mm = n.toNat ∧ (0 ≤ n ∧ n ≤ 3) ∧ (p107 + 1 ≤ p1 ∧ p1 ≤ (p107 + 1) + 3 - n) ∧ (ys.length : Int) ≤ 3 - n ∧ Dw.Own w' Bq 3 1 cq ys.length (ys.flatMap icell) ∧ w.heap.size ≤ Bq ∧ R ≠ Bq ∧ B101 ≠ Bq ∧ B561 ≠ Bq ∧ B570 ≠ Bq ∧ f' 9 = .int .i64 n ∧ f' 0 = .pointer (some ⟨R, 0, none⟩) ∧ f' 6 = .pointer (some ⟨B101, 0, none⟩) ∧ f' 7 = .pointer (some ⟨B570, 0, none⟩) ∧ w.grownBy w' (some R) ∧ Blk w' B101 31 #[.int .i64 0, .int .i64 0, .int .i64 0, .int .i64 0, .int .i64 0, .slice none 0 0, .slice none 0 0, .int .i64 0] ∧ Dw.Own w' B561 39 5 cap562 ([] : List Rt).length (([] : List Rt).flatMap Rt.cells) ∧ Blk w' B570 31 #[.int .i64 k, .int .i64 l106.s, .int .i64 l106.v, .int .i64 0, .int .i64 0, .slice (some ⟨B561, 0, none⟩) 0 cap562, .slice (some ⟨Bq, 0, none⟩) ys.length cq, .int .i64 to] ∧ Blk w' R 56 #[.slice a bs.length c, .int .i64 p1]) (k670.toNat) ⟨k670, (p107 + 1), B565, cap566, ([] : List Int), rfl, (by omega), (by omega), (by simp only [List.length_nil]; omega), k677, hlB565, (by omega), (by omega), (by omega), (by omega), rfl, rfl, rfl, rfl, hb676, k678, k679, k680, kR673⟩ ?_
      rintro mm f681 w682 ⟨n, p1, Bq, cq, ys, hm684, hnn, hpp, hyl, hOwn, hlBq, hne0, hne1, hne2, hne3, e685, e686, e687, e688, hb683, k689, k690, k691, k692⟩
      refine wpf_seq ?_
      refine wpf_seq_region ?_
      refine wpo_move (v := .int .i64 n) e685 rfl ?_
      refine wpo_gtr (q := decide (0 < n)) rfl rfl rfl rfl ?_
      refine wpo_nil ?_
      refine wpf_cond rfl (fun h693 => ?_) (fun h693 => ?_)
      ·
       have h694 := of_decide_eq_true h693
       refine wpf_skip ?_
       refine thn_n ?_
       refine wpf_seq ?_
       refine wpf_block ?_
       refine wpf_drawI (m := 5) [[], [0], [], [2], [2, 3], [0, 1, 2, 3, 4], [0, 1, 2, 3, 4, 5], [0, 1, 2, 3, 4, 5, 6]] (fun S F w' => ∃ (k784 : Int) (B791 : Nat), w682.grownBy w' (some R) ∧ F 0 = .pointer (some ⟨R, 0, none⟩) ∧ F 6 = .pointer (some ⟨B101, 0, none⟩) ∧ F 7 = .pointer (some ⟨B570, 0, none⟩) ∧ F 9 = .int .i64 n ∧ (S 3 = false → Blk w' R 56 #[.slice a bs.length c, .int .i64 p1]) ∧ (S 3 = true → F 48 = .int .i64 k784 ∧ 0 ≤ k784 ∧ (k784 < 20 ∨ k784 = 0) ∧ Blk w' R 56 #[.slice a bs.length c, .int .i64 (p1 + 1)]) ∧ (S 4 = true → F 49 = .slice (some ⟨B791, 0, none⟩) 1 1 ∧ w.heap.size ≤ B791 ∧ Blk w' B791 3 (([k784] : List Int).flatMap icell).toArray ∧ B101 < B791 ∧ B561 < B791 ∧ B570 < B791 ∧ R < B791 ∧ Bq < B791 ∧ w682.heap.size ≤ B791) ∧ Vals S F [(0, 45, .pointer (some ⟨B570, 6, none⟩)), (1, 46, .slice (some ⟨Bq, 0, none⟩) ys.length cq), (2, 47, .pointer (some ⟨R, 0, none⟩))]) mixed_ (by kernel_rfl) ⟨0, 0, grown_drew _, e686, e687, e688, e685, fun _ => (k692).grown0 (grown_drew _), not_begun, not_begun, vals_0 _⟩ ?_ ?_
       ·
        refine preL_cons (fun S F w799 hS hbef hcl hI => ?_) ?_
        ·
         obtain ⟨k784, B791, hi800, e801, e802, e803, e804, c_old_R, c_3, c_4, hvs⟩ := hI
         have hb805 := grown_trans hb683 hi800
         refine wpo_fieldAddr (o' := 6) fo_31_5 e803 rfl rfl ?_
         exact wpo_nil ⟨k784, B791, hi800, e801, e802, e803, e804, fun h => c_old_R h, c_3, c_4, Vals.up 0 hvs rfl rfl rfl⟩
        refine preL_cons (fun S F w806 hS hbef hcl hI => ?_) ?_
        ·
         obtain ⟨k784, B791, hi807, e808, e809, e810, e811, c_old_R, c_3, c_4, hvs⟩ := hI
         have hb812 := grown_trans hb683 hi807
         have ev813 := Vals.at 0 hvs rfl (ready_of 0 hbef rfl)
         have k814 := (k691.gn hi807)
         refine wpo_load1 (v := .slice (some ⟨Bq, 0, none⟩) ys.length cq) ot_29 ev813 (k814.cell rfl) rfl ?_
         exact wpo_nil ⟨k784, B791, hi807, e808, e809, e810, e811, fun h => c_old_R h, c_3, c_4, Vals.up 1 hvs rfl rfl rfl⟩
        refine preL_cons (fun S F w815 hS hbef hcl hI => ?_) ?_
        ·
         obtain ⟨k784, B791, hi816, e817, e818, e819, e820, c_old_R, c_3, c_4, hvs⟩ := hI
         have hb821 := grown_trans hb683 hi816
         refine wpo_move (v := .pointer (some ⟨R, 0, none⟩)) e817 rfl ?_
         exact wpo_nil ⟨k784, B791, hi816, e817, e818, e819, e820, fun h => c_old_R h, fun h => undone 3 hS hcl rfl h, fun h => undone 4 hS hcl rfl h, Vals.up 2 hvs rfl rfl rfl⟩
        refine preL_cons (fun S F w822 hS hbef hcl hI => ?_) ?_
        ·
         obtain ⟨k784, B791, hi823, e824, e825, e826, e827, c_old_R, c_3, c_4, hvs⟩ := hI
         have hb828 := grown_trans hb683 hi823
         have ev829 := Vals.at 2 hvs rfl (ready_of 2 hbef rfl)
         refine wpo_call (vs := [.pointer (some ⟨R, 0, none⟩), .int .i64 20]) gf_26 (args_cons ev829 (args_cons rfl args_nil)) rfl (pick_c p1 20 (by omega) _ R bs _ _ _ (c_old_R hS) (by omega) (SlLt.low1 hs hb828 hlo) (by first | exact hb | exact fun b h => hb b (List.mem_of_mem_take h)) (by first | omega | (rw [List.length_take]; omega))) ?_
         rintro _ w835 ⟨k830, rfl, hk831, hk832, kR833, hg834⟩
         have hb836 := grown_trans hb828 hg834
         exact wpo_nil ⟨k830, B791, (grown_trans hi823 hg834), e824, e825, e826, e827, fun h => not_open h, fun _ => ⟨rfl, hk831, hk832, kR833⟩, fun h => undone 4 hS hcl rfl h, Vals.keep hvs rfl⟩
        refine preL_cons (fun S F w837 hS hbef hcl hI => ?_) ?_
        ·
         obtain ⟨k784, B791, hi838, e839, e840, e841, e842, c_old_R, c_3, c_4, hvs⟩ := hI
         have hb843 := grown_trans hb683 hi838
         have ev844 := Vals.at 2 hvs rfl (ready_of 2 hbef rfl)
         obtain ⟨e845, hk785, hk786, ks3_R⟩ := c_3 (ready_of 3 hbef rfl)
         refine wpo_buildSlice (ps := [(0, .int .i64 k784)]) (e := 3) (cs := (([k784] : List Int).flatMap icell).toArray) (parts_cons e845 parts_nil) (fun _ => by kernel_rfl) rfl ?_
         intro B846 w847 hN848
         have hlB846 := hN_ge hN848 hb843
         have k849 := (k689.gn hi838)
         have lt_B101_B846 := hN_gtl hN848 (k849).lt
         have k850 := (k690.gn hi838)
         have lt_B561_B846 := hN_gtl hN848 (k850).lt
         have k851 := (k691.gn hi838)
         have lt_B570_B846 := hN_gtl hN848 (k851).lt
         have k852 := (hOwn.gn hi838)
         have lt_Bq_B846 := hN_gtl hN848 (k852).lt
         have lt_R_B846 := hN_gtl hN848 (ks3_R).lt
         have hb853 := low0 hb843 hN848.grw
         exact wpo_nil ⟨k784, B846, (low0 hi838 hN848.grw), e839, e840, e841, e842, fun hn => not_open ((ready_of 3 hbef rfl).symm.trans hn), fun h => let ⟨y854, y855, y856, y857⟩ := c_3 h; ⟨y854, y855, y856, (y857).grown0 hN848.grw⟩, fun _ => ⟨rfl, hlB846, hN848.blk, lt_B101_B846, lt_B561_B846, lt_B570_B846, (by omega), lt_Bq_B846, (Nat.le_trans hi838.size (Nat.le_of_eq hN848.eq.symm))⟩, Vals.keep hvs rfl⟩
        exact preL_nil
       ·
        intro S F w858 hall hI
        obtain ⟨k784, B791, hi859, e860, e861, e862, e863, c_old_R, c_3, c_4, hvs⟩ := hI
        have hb864 := grown_trans hb683 hi859
        have ev865 := Vals.at 0 hvs rfl (hall 0 (by decide))
        have ev866 := Vals.at 1 hvs rfl (hall 1 (by decide))
        have ev867 := Vals.at 2 hvs rfl (hall 2 (by decide))
        obtain ⟨e868, hk785, hk786, ks3_R⟩ := c_3 (hall 3 (by decide))
        obtain ⟨e869, hlB791, kb_B791, lt_B101_B791, lt_B561_B791, lt_B570_B791, lt_R_B791, lt_Bq_B791, hk_B791⟩ := c_4 (hall 4 (by decide))
        have k870 := (hOwn.gn hi859)
        have k871 := (k689.gn hi859)
        have k872 := (k690.gn hi859)
        have k873 := (k691.gn hi859)
        refine wpo_append (g := icell) (ys := ys) (zs := ([k784] : List Int)) mk_29 rfl wide_int (by omega) onec_int ev866 e869 k870 (rows_sl wide_int kb_B791) (by simp only [List.length_cons, List.length_nil]; omega) (by omega) rfl ?_
        intro B874 cap875 w876 hO877 hg878 hor879
        have hlB874 : w.heap.size ≤ B874 := by rcases hor879 with h | h; (rw [h]; exact hlBq); (rw [h]; exact hb864.size)
        have ne_B101_B874 : B101 ≠ B874 := by have h := (k871).lt; omega
        have ne_B561_B874 : B561 ≠ B874 := by have h := (k872).lt; omega
        have ne_B570_B874 : B570 ≠ B874 := by have h := (k873).lt; omega
        have ne_R_B874 : R ≠ B874 := by have h := (ks3_R).lt; omega
        have ne_B791_B874 : B791 ≠ B874 := by have h := (kb_B791).lt; omega
        have hb880 := low1 hb864 hg878 (by omega)
        refine wpo_fieldAddr (o' := 6) fo_31_5 e862 rfl rfl ?_
        have k881 := (k873.gn hg878)
        refine wpo_store1 (v := .slice (some ⟨B874, 0, none⟩) ((ys ++ ([k784] : List Int)).length) cap875) (cs' := #[.int .i64 k, .int .i64 l106.s, .int .i64 l106.v, .int .i64 0, .int .i64 0, .slice (some ⟨B561, 0, none⟩) 0 cap562, .slice (some ⟨B874, 0, none⟩) ((ys ++ ([k784] : List Int)).length) cap875, .int .i64 to]) ot_29 rfl rfl rfl k881 (Nat.le_of_ble_eq_true rfl) rfl ?_
        intro w882 hS883
        have hb884 := low1 hb880 hS883.grw (by omega)
        refine wpo_nil ?_
        refine blk_n ?_
        refine thn_n ?_
        refine wpf_region ?_
        refine wpo_move (v := .int .i64 n) e863 rfl ?_
        refine wpo_sub (c := n - 1) rfl rfl (by omega) (by omega) (by omega) rfl ?_
        refine wpo_assign (v := .int .i64 (n - 1)) rfl rfl ?_
        refine wpo_nil ?_
        refine thn_n ?_
        have k885 := (hO877.gn hS883.grw)
        have k886 := ((k871.gn hg878).gn hS883.grw)
        have k887 := ((k872.gn hg878).gn hS883.grw)
        have k888 := ((ks3_R.gn hg878).gn hS883.grw)
        exact ⟨(n - 1).toNat, by omega, (n - 1), (p1 + 1), B874, cap875, (ys ++ ([k784] : List Int)), rfl, (by omega), (by omega), (by simp only [List.length_append, List.length_cons, List.length_nil]; omega), k885, hlB874, (by omega), (by omega), (by omega), (by omega), rfl, e860, e861, e862, hb884, k886, k887, hS883.blk, k888⟩
      ·
       have h889 := of_decide_eq_false h693
       refine wpf_exit ?_
       refine thn_e ?_
       refine thn_e ?_
       refine blk_e ?_
       refine blk_n ?_
       refine thn_n ?_
       refine wpf_seq_region ?_
       refine wpo_loadn (vs := [.int .i64 k, .int .i64 l106.s, .int .i64 l106.v, .int .i64 0, .int .i64 0, .slice (some ⟨B561, 0, none⟩) 0 cap562, .slice (some ⟨Bq, 0, none⟩) ys.length cq, .int .i64 to]) rt_31 e688 rfl (k691.rangeL 0 8 rfl) rfl ?_
       refine wpo_storen (vs := [.int .i64 k, .int .i64 l106.s, .int .i64 l106.v, .int .i64 0, .int .i64 0, .slice (some ⟨B561, 0, none⟩) 0 cap562, .slice (some ⟨Bq, 0, none⟩) ys.length cq, .int .i64 to]) (cs' := #[.int .i64 k, .int .i64 l106.s, .int .i64 l106.v, .int .i64 0, .int .i64 0, .slice (some ⟨B561, 0, none⟩) 0 cap562, .slice (some ⟨Bq, 0, none⟩) ys.length cq, .int .i64 to]) rt_31 e687 rfl rfl (by simp [Value.oneCell']) k689 (Nat.le_of_ble_eq_true rfl) rfl ?_
       intro w890 hS891
       have hb892 := low1 hb683 hS891.grw (by omega)
       refine wpo_nil ?_
       refine wpf_ret ?_
       have k893 := (hOwn.gn hS891.grw)
       have k894 := (k690.gn hS891.grw)
       have k895 := (k692.gn hS891.grw)
       refine ⟨.agg #[.int .i64 k, .int .i64 l106.s, .int .i64 l106.v, .int .i64 0, .int .i64 0, .slice (some ⟨B561, 0, none⟩) 0 cap562, .slice (some ⟨Bq, 0, none⟩) ys.length cq, .int .i64 to], resC rfl (resCell_mk (vs := [.int .i64 k, .int .i64 l106.s, .int .i64 l106.v, .int .i64 0, .int .i64 0, .slice (some ⟨B561, 0, none⟩) 0 cap562, .slice (some ⟨Bq, 0, none⟩) ys.length cq, .int .i64 to]) rt_31 e687 rfl (hS891.blk.rangeL 0 8 rfl)), ⟨⟨k, l106, 0, 0, ([] : List Rt), ys, to⟩, some ⟨B561, 0, none⟩, cap562, some ⟨Bq, 0, none⟩, cq⟩, p1, rfl, ⟨OwnN.of k893 hlBq, ⟨([] : List Rt), OwnN.of k894 hlB561, rfl, ?_⟩, ?_, ?_, ⟨show (0 : Int) ≤ 0 by omega, show 0 ≤ (1 : Int) by omega⟩⟩, by omega, by omega, k895, hb892⟩
       ·
        intro x hx; first | (simp [zeros4] at hx; subst hx; exact ⟨by decide, by decide, by decide, by decide⟩) | simp at hx
       ·
        first | exact Nat.le_of_ble_eq_true rfl | omega | (simp only [List.length_nil]; omega)
       ·
        exact Nat.le_of_ble_eq_true rfl
     ·
      have h896 := of_decide_eq_false h667
      refine wpf_seq_region ?_
      refine wpo_eql (q := decide (k = 3)) rfl rfl rfl rfl ?_
      refine wpo_assign (v := .bool (decide (k = 3))) rfl rfl ?_
      refine wpo_nil ?_
      refine wpf_condf rfl h554 ?_
      refine wpf_skip ?_
      refine blk_n ?_
      refine thn_n ?_
      refine wpf_seq_region ?_
      refine wpo_loadn (vs := [.int .i64 k, .int .i64 l106.s, .int .i64 l106.v, .int .i64 0, .int .i64 0, .slice (some ⟨B561, 0, none⟩) 0 cap562, .slice (some ⟨B565, 0, none⟩) 0 cap566, .int .i64 to]) rt_31 rfl rfl (hS577.blk.rangeL 0 8 rfl) rfl ?_
      have k897 := ((k574.grown0 hN572.grw).gn hS577.grw)
      refine wpo_storen (vs := [.int .i64 k, .int .i64 l106.s, .int .i64 l106.v, .int .i64 0, .int .i64 0, .slice (some ⟨B561, 0, none⟩) 0 cap562, .slice (some ⟨B565, 0, none⟩) 0 cap566, .int .i64 to]) (cs' := #[.int .i64 k, .int .i64 l106.s, .int .i64 l106.v, .int .i64 0, .int .i64 0, .slice (some ⟨B561, 0, none⟩) 0 cap562, .slice (some ⟨B565, 0, none⟩) 0 cap566, .int .i64 to]) rt_31 rfl rfl rfl (by simp [Value.oneCell']) k897 (Nat.le_of_ble_eq_true rfl) rfl ?_
      intro w898 hS899
      have hb900 := low1 hb578 hS899.grw (by omega)
      refine wpo_nil ?_
      refine wpf_ret ?_
      have k901 := (((hO568.grown0 hN572.grw).gn hS577.grw).gn hS899.grw)
      have k902 := (((hO564.grown0 hN572.grw).gn hS577.grw).gn hS899.grw)
      have k903 := (((k573.grown0 hN572.grw).gn hS577.grw).gn hS899.grw)
      refine ⟨.agg #[.int .i64 k, .int .i64 l106.s, .int .i64 l106.v, .int .i64 0, .int .i64 0, .slice (some ⟨B561, 0, none⟩) 0 cap562, .slice (some ⟨B565, 0, none⟩) 0 cap566, .int .i64 to], resC rfl (resCell_mk (vs := [.int .i64 k, .int .i64 l106.s, .int .i64 l106.v, .int .i64 0, .int .i64 0, .slice (some ⟨B561, 0, none⟩) 0 cap562, .slice (some ⟨B565, 0, none⟩) 0 cap566, .int .i64 to]) rt_31 rfl rfl (hS899.blk.rangeL 0 8 rfl)), ⟨⟨k, l106, 0, 0, ([] : List Rt), ([] : List Int), to⟩, some ⟨B561, 0, none⟩, cap562, some ⟨B565, 0, none⟩, cap566⟩, p107, rfl, ⟨OwnN.of k901 hlB565, ⟨([] : List Rt), OwnN.of k902 hlB561, rfl, ?_⟩, ?_, ?_, ⟨show (0 : Int) ≤ 0 by omega, show 0 ≤ (1 : Int) by omega⟩⟩, by omega, by omega, k903, hb900⟩
      ·
       intro x hx; first | (simp [zeros4] at hx; subst hx; exact ⟨by decide, by decide, by decide, by decide⟩) | simp at hx
      ·
       first | exact Nat.le_of_ble_eq_true rfl | omega | (simp only [List.length_nil]; omega)
      ·
       exact Nat.le_of_ble_eq_true rfl
  ·
   have k904 := (hN103.blk.gn hg115)
   have h905 : thingOk (⟨k, l106, 0, 0, [], [], to⟩ : Th) = false := (newOk_n h118).symm.trans h556
   refine wpo_call (vs := [.int .i64 k, .agg #[.int .i64 l106.s, .int .i64 l106.v], .int .i64 to]) gf_55 (args_cons rfl (args_cons rfl (args_cons rfl args_nil))) rfl (sThingNew_nf k to l106 h118 h556 _) ?_
   rintro _ w906 ⟨rfl, hg907⟩
   have hb908 := low0 hb117 hg907
   refine wpo_move (v := .tuple #[.agg #[.int .i64 0, .int .i64 0, .int .i64 0, .int .i64 0, .int .i64 0, .slice none 0 0, .slice none 0 0, .int .i64 0], .bool false]) rfl rfl ?_
   refine wpo_extract (v := .agg #[.int .i64 0, .int .i64 0, .int .i64 0, .int .i64 0, .int .i64 0, .slice none 0 0, .slice none 0 0, .int .i64 0]) rfl rfl rfl ?_
   refine wpo_extract (v := .bool false) rfl rfl rfl ?_
   refine wpo_alloc (cs := #[.int .i64 0, .int .i64 0, .int .i64 0, .int .i64 0, .int .i64 0, .slice none 0 0, .slice none 0 0, .int .i64 0]) zt_31 rfl rfl ?_
   intro B909 w910 hN911
   have hlB909 := hN_ge hN911 hb908
   have k912 := (kR114.grown0 hg907)
   have lt_R_B909 := hN_gtl hN911 (k912).lt
   have k913 := (k904.grown0 hg907)
   have lt_B101_B909 := hN_gtl hN911 (k913).lt
   have hb914 := low0 hb908 hN911.grw
   refine wpo_storen (vs := [.int .i64 0, .int .i64 0, .int .i64 0, .int .i64 0, .int .i64 0, .slice none 0 0, .slice none 0 0, .int .i64 0]) (cs' := #[.int .i64 0, .int .i64 0, .int .i64 0, .int .i64 0, .int .i64 0, .slice none 0 0, .slice none 0 0, .int .i64 0]) rt_31 rfl rfl rfl (by simp [Value.oneCell']) hN911.blk (Nat.le_of_ble_eq_true rfl) rfl ?_
   intro w915 hS916
   have hb917 := low1 hb914 hS916.grw (by omega)
   refine wpo_assign (v := .bool false) rfl rfl ?_
   refine wpo_nil ?_
   refine wpf_seq ?_
   refine wpf_seq_region ?_
   refine wpo_fieldAddr (o' := 0) fo_31_0 rfl rfl rfl ?_
   refine wpo_load1 (v := .int .i64 0) ot_3 rfl (hS916.blk.cell rfl) rfl ?_
   refine wpo_eql (q := true) rfl rfl (by decide) rfl ?_
   refine wpo_nil ?_
   refine wpf_condt rfl rfl ?_
   refine wpf_region ?_
   refine wpo_build (ps := []) (v := .agg #[.int .i64 0, .int .i64 0]) parts_nil (by kernel_rfl) rfl ?_
   have k918 := ((k912.grown0 hN911.grw).gn hS916.grw)
   have k919 := ((k913.grown0 hN911.grw).gn hS916.grw)
   have h920 : thingOk (⟨1, ⟨0, 0⟩, 0, 0, [], [], 0⟩ : Th) = true := (newOk_n (by decide)).symm.trans (by decide)
   refine wpo_call (vs := [.int .i64 1, .agg #[.int .i64 0, .int .i64 0], .int .i64 0]) gf_55 (args_cons rfl (args_cons rfl (args_cons rfl args_nil))) rfl (sThingNew_nt 1 0 ⟨0, 0⟩ (by decide) (by decide) _) ?_
   rintro _ w921 ⟨B923, cap924, B927, cap928, rfl, hge925, hO926, hge929, hO930, ne_B923_B927, hg922⟩
   have hb931 := low0 hb917 hg922
   have hlB923 := Nat.le_trans hb917.size hge925
   have lt_R_B923 := Nat.lt_of_lt_of_le (k918).lt hge925
   have lt_B101_B923 := Nat.lt_of_lt_of_le (k919).lt hge925
   have lt_B909_B923 := Nat.lt_of_lt_of_le (hS916.blk).lt hge925
   have hlB927 := Nat.le_trans hb917.size hge929
   have lt_R_B927 := Nat.lt_of_lt_of_le (k918).lt hge929
   have lt_B101_B927 := Nat.lt_of_lt_of_le (k919).lt hge929
   have lt_B909_B927 := Nat.lt_of_lt_of_le (hS916.blk).lt hge929
   refine wpo_move (v := .tuple #[.agg #[.int .i64 1, .int .i64 0, .int .i64 0, .int .i64 0, .int .i64 0, .slice (some ⟨B923, 0, none⟩) 0 cap924, .slice (some ⟨B927, 0, none⟩) 0 cap928, .int .i64 0], .bool true]) rfl rfl ?_
   refine wpo_extract (v := .agg #[.int .i64 1, .int .i64 0, .int .i64 0, .int .i64 0, .int .i64 0, .slice (some ⟨B923, 0, none⟩) 0 cap924, .slice (some ⟨B927, 0, none⟩) 0 cap928, .int .i64 0]) rfl rfl rfl ?_
   refine wpo_extract (v := .bool true) rfl rfl rfl ?_
   have k932 := (hS916.blk.grown0 hg922)
   refine wpo_storen (vs := [.int .i64 1, .int .i64 0, .int .i64 0, .int .i64 0, .int .i64 0, .slice (some ⟨B923, 0, none⟩) 0 cap924, .slice (some ⟨B927, 0, none⟩) 0 cap928, .int .i64 0]) (cs' := #[.int .i64 1, .int .i64 0, .int .i64 0, .int .i64 0, .int .i64 0, .slice (some ⟨B923, 0, none⟩) 0 cap924, .slice (some ⟨B927, 0, none⟩) 0 cap928, .int .i64 0]) rt_31 rfl rfl rfl (by simp [Value.oneCell']) k932 (Nat.le_of_ble_eq_true rfl) rfl ?_
   intro w933 hS934
   have hb935 := low1 hb931 hS934.grw (by omega)
   refine wpo_nil ?_
   refine thn_n ?_
   refine wpf_seq ?_
   refine wpf_seq_region ?_
   refine wpo_fieldAddr (o' := 0) fo_31_0 rfl rfl rfl ?_
   refine wpo_load1 (v := .int .i64 1) ot_3 rfl (hS934.blk.cell rfl) rfl ?_
   refine wpo_nil ?_
   refine wpf_block ?_
   refine wpf_seq_region ?_
   refine wpo_eql (q := true) rfl rfl (by decide) rfl ?_
   refine wpo_assign (v := .bool true) rfl rfl ?_
   refine wpo_nil ?_
   refine wpf_condt rfl rfl ?_
   refine wpf_seq_region ?_
   refine wpo_move (v := .pointer (some ⟨R, 0, none⟩)) rfl rfl ?_
   have k936 := ((k918.grown0 hg922).gn hS934.grw)
   refine wpo_call (vs := [.pointer (some ⟨R, 0, none⟩), .int .i64 20]) gf_26 (args_cons rfl (args_cons rfl args_nil)) rfl (pick_c p107 20 (by omega) _ R bs _ _ _ k936 (by omega) (SlLt.low1 hs hb935 hlo) (by first | exact hb | exact fun b h => hb b (List.mem_of_mem_take h)) (by first | omega | (rw [List.length_take]; omega))) ?_
   rintro _ w942 ⟨k937, rfl, hk938, hk939, kR940, hg941⟩
   have hb943 := grown_trans hb935 hg941
   refine wpo_fieldAddr (o' := 4) fo_31_3 rfl rfl rfl ?_
   have k944 := (hS934.blk.gn hg941)
   refine wpo_store1 (v := .int .i64 k937) (cs' := #[.int .i64 1, .int .i64 0, .int .i64 0, .int .i64 0, .int .i64 k937, .slice (some ⟨B923, 0, none⟩) 0 cap924, .slice (some ⟨B927, 0, none⟩) 0 cap928, .int .i64 0]) ot_3 rfl rfl rfl k944 (Nat.le_of_ble_eq_true rfl) rfl ?_
   intro w945 hS946
   have hb947 := low1 hb943 hS946.grw (by omega)
   refine wpo_nil ?_
   refine wpf_region ?_
   refine wpo_move (v := .pointer (some ⟨R, 0, none⟩)) rfl rfl ?_
   have k948 := (kR940.gn hS946.grw)
   refine wpo_call (vs := [.pointer (some ⟨R, 0, none⟩), .int .i64 3]) gf_26 (args_cons rfl (args_cons rfl args_nil)) rfl (pick_c (p107 + 1) 3 (by omega) _ R bs _ _ _ k948 (by omega) (SlLt.low1 hs hb947 hlo) (by first | exact hb | exact fun b h => hb b (List.mem_of_mem_take h)) (by first | omega | (rw [List.length_take]; omega))) ?_
   rintro _ w954 ⟨k949, rfl, hk950, hk951, kR952, hg953⟩
   have hb955 := grown_trans hb947 hg953
   refine wpo_quo (c := k949 / 2) rfl rfl (by omega) (by omega) (by omega) rfl rfl ?_
   refine wpo_fieldAddr (o' := 3) fo_31_2 rfl rfl rfl ?_
   have k956 := (hS946.blk.gn hg953)
   refine wpo_store1 (v := .int .i64 (k949 / 2)) (cs' := #[.int .i64 1, .int .i64 0, .int .i64 0, .int .i64 (k949 / 2), .int .i64 k937, .slice (some ⟨B923, 0, none⟩) 0 cap924, .slice (some ⟨B927, 0, none⟩) 0 cap928, .int .i64 0]) ot_3 rfl rfl rfl k956 (Nat.le_of_ble_eq_true rfl) rfl ?_
   intro w957 hS958
   have hb959 := low1 hb955 hS958.grw (by omega)
   refine wpo_nil ?_
   refine blk_n ?_
   refine thn_n ?_
   refine wpf_seq_region ?_
   refine wpo_loadn (vs := [.int .i64 1, .int .i64 0, .int .i64 0, .int .i64 (k949 / 2), .int .i64 k937, .slice (some ⟨B923, 0, none⟩) 0 cap924, .slice (some ⟨B927, 0, none⟩) 0 cap928, .int .i64 0]) rt_31 rfl rfl (hS958.blk.rangeL 0 8 rfl) rfl ?_
   have k960 := ((((((k919.grown0 hg922).gn hS934.grw).gn hg941).gn hS946.grw).gn hg953).gn hS958.grw)
   refine wpo_storen (vs := [.int .i64 1, .int .i64 0, .int .i64 0, .int .i64 (k949 / 2), .int .i64 k937, .slice (some ⟨B923, 0, none⟩) 0 cap924, .slice (some ⟨B927, 0, none⟩) 0 cap928, .int .i64 0]) (cs' := #[.int .i64 1, .int .i64 0, .int .i64 0, .int .i64 (k949 / 2), .int .i64 k937, .slice (some ⟨B923, 0, none⟩) 0 cap924, .slice (some ⟨B927, 0, none⟩) 0 cap928, .int .i64 0]) rt_31 rfl rfl rfl (by simp [Value.oneCell']) k960 (Nat.le_of_ble_eq_true rfl) rfl ?_
   intro w961 hS962
   have hb963 := low1 hb959 hS962.grw (by omega)
   refine wpo_nil ?_
   refine wpf_ret ?_
   have k964 := ((((((hO930.gn hS934.grw).gn hg941).gn hS946.grw).gn hg953).gn hS958.grw).gn hS962.grw)
   have k965 := ((((((hO926.gn hS934.grw).gn hg941).gn hS946.grw).gn hg953).gn hS958.grw).gn hS962.grw)
   have k966 := ((kR952.gn hS958.grw).gn hS962.grw)
   refine ⟨.agg #[.int .i64 1, .int .i64 0, .int .i64 0, .int .i64 (k949 / 2), .int .i64 k937, .slice (some ⟨B923, 0, none⟩) 0 cap924, .slice (some ⟨B927, 0, none⟩) 0 cap928, .int .i64 0], resC rfl (resCell_mk (vs := [.int .i64 1, .int .i64 0, .int .i64 0, .int .i64 (k949 / 2), .int .i64 k937, .slice (some ⟨B923, 0, none⟩) 0 cap924, .slice (some ⟨B927, 0, none⟩) 0 cap928, .int .i64 0]) rt_31 rfl rfl (hS962.blk.rangeL 0 8 rfl)), ⟨⟨1, ⟨0, 0⟩, k949 / 2, k937, ([] : List Rt), ([] : List Int), 0⟩, some ⟨B923, 0, none⟩, cap924, some ⟨B927, 0, none⟩, cap928⟩, (p107 + 1 + 1), rfl, ⟨OwnN.of k964 hlB927, ⟨([] : List Rt), OwnN.of k965 hlB923, rfl, ?_⟩, ?_, ?_, ⟨show (0 : Int) ≤ k949 / 2 by omega, show k949 / 2 ≤ (1 : Int) by omega⟩⟩, by omega, by omega, k966, hb963⟩
   ·
    intro x hx; first | (simp [zeros4] at hx; subst hx; exact ⟨by decide, by decide, by decide, by decide⟩) | simp at hx
   ·
    first | exact Nat.le_of_ble_eq_true rfl | omega | (simp only [List.length_nil]; omega)
   ·
    exact Nat.le_of_ble_eq_true rfl

theorem l71Table_c (p : Int) (hp : 0 ≤ p ∧ p ≤ 999999990000) (lo R : Nat) (bs : List Int) (a : Option Addr) (c : Nat) (w : World) (hR : Blk w R 56 #[.slice a bs.length c, .int .i64 p]) (hlo : lo ≤ R) (hs : SlLt lo w a 1 (bs.map bcell)) (hb : ∀ b ∈ bs, 0 ≤ b ∧ b ≤ 255) (hn : bs.length ≤ 1048576) : CallsR Tryd.prog 25 #[.pointer (some ⟨R, 0, none⟩)] w (fun v w' => ∃ (B cap : Nat) (ms : List MTh) (p' : Int), v = .slice (some ⟨B, 0, none⟩) ms.length cap ∧ TabG w.heap.size w' (some ⟨B, 0, none⟩) ms ∧ Small ms ∧ (3 ≤ ms.length ∧ ms.length ≤ 8) ∧ p ≤ p' ∧ p' ≤ p + 600 ∧ Blk w' R 56 #[.slice a bs.length c, .int .i64 p'] ∧ w.grownBy w' (some R)) := by
 refine calls_of_wpf (n := 142) Tryd.func25 rfl Tryd.ntmps25 rfl ?_
 have hb0 := World.grownBy.refl w (some R)
 have hRlt := hR.lt
 refine wpf_seq_region ?_
 refine wpo_assign (v := .slice none 0 0) rfl rfl ?_
 refine wpo_nil ?_
 refine wpf_seq_region ?_
 refine wpo_buildSlice (ps := [(0, .int .i64 1), (1, .int .i64 3), (2, .int .i64 3)]) (e := 3) (cs := (([1, 3, 3] : List Int).flatMap icell).toArray) (parts_cons rfl (parts_cons rfl (parts_cons rfl parts_nil))) (fun _ => by kernel_rfl) rfl ?_
 intro B101 w102 hN103
 have hlB101 := hN_ge hN103 hb0
 have lt_R_B101 := hN_gtl hN103 (hR).lt
 have hb104 := low0 hb0 hN103.grw
 refine wpo_assign (v := .slice (some ⟨B101, 0, none⟩) 3 3) rfl rfl ?_
 refine wpo_nil ?_
 refine wpf_seq ?_
 refine wpf_seq_region ?_
 refine wpo_move (v := .pointer (some ⟨R, 0, none⟩)) rfl rfl ?_
 have k105 := (hR.grown0 hN103.grw)
 refine wpo_call (vs := [.pointer (some ⟨R, 0, none⟩), .int .i64 6]) gf_26 (args_cons rfl (args_cons rfl args_nil)) rfl (pick_c p 6 (by omega) _ R bs _ _ _ k105 (by omega) (SlLt.low1 hs hb104 hlo) (by first | exact hb | exact fun b h => hb b (List.mem_of_mem_take h)) (by first | omega | (rw [List.length_take]; omega))) ?_
 rintro _ w111 ⟨k106, rfl, hk107, hk108, kR109, hg110⟩
 have hb112 := grown_trans hb104 hg110
 refine wpo_assign (v := .int .i64 k106) rfl rfl ?_
 refine wpo_nil ?_
 refine wpf_block ?_
 have k113 := (hN103.blk.gn hg110)
 refine wpf_loopN (fun mm f' w' => ∃ (n : Int) (p1 : Int) (Bk : Nat) (ck : Nat) (ks : List Int), mm = n.toNat ∧ (0 ≤ n ∧ n ≤ 5) ∧ (p ≤ p1 ∧ p1 ≤ p + 6 - n) ∧ (3 ≤ ks.length ∧ (ks.length : Int) ≤ 8 - n) ∧ (∀ y ∈ ks, 1 ≤ y ∧ y ≤ 5) ∧ Dw.Own w' Bk 3 1 ck ks.length (ks.flatMap icell) ∧ w.heap.size ≤ Bk ∧ R ≠ Bk ∧ f' 3 = .slice (some ⟨Bk, 0, none⟩) ks.length ck ∧ f' 4 = .int .i64 n ∧ f' 0 = .pointer (some ⟨R, 0, none⟩) ∧ f' 2 = .slice none 0 0 ∧ w.grownBy w' (some R) ∧ Blk w' R 56 #[.slice a bs.length c, .int .i64 p1]) (k106.toNat) ⟨k106, (p + 1), B101, 3, ([1, 3, 3] : List Int), rfl, (by omega), (by omega), (by simp only [List.length_nil, List.length_cons]; omega), (by intro y hy; simp at hy; omega), (Own.rows wide_int k113 (by simp)), hlB101, (by omega), rfl, rfl, rfl, rfl, hb112, kR109⟩ ?_
 rintro mm f114 w115 ⟨n, p1, Bk, ck, ks, hm117, hnn, hpp, hkl, hks, hOk, hlBk, hne0, e118, e119, e120, e121, hb116, k122⟩
 refine wpf_seq ?_
 refine wpf_seq_region ?_
 refine wpo_move (v := .int .i64 n) e119 rfl ?_
 refine wpo_gtr (q := decide (0 < n)) rfl rfl rfl rfl ?_
 refine wpo_nil ?_
 refine wpf_cond rfl (fun h123 => ?_) (fun h123 => ?_)
 ·
  have h124 := of_decide_eq_true h123
  refine wpf_skip ?_
  refine thn_n ?_
  refine wpf_seq ?_
  refine wpf_block ?_
  refine wpf_region ?_
  refine wpo_move (v := .slice (some ⟨Bk, 0, none⟩) ks.length ck) e118 rfl ?_
  refine wpo_buildSlice (ps := [(0, .int .i64 1), (1, .int .i64 2), (2, .int .i64 2), (3, .int .i64 3), (4, .int .i64 4), (5, .int .i64 5)]) (e := 3) (cs := (([1, 2, 2, 3, 4, 5] : List Int).flatMap icell).toArray) (parts_cons rfl (parts_cons rfl (parts_cons rfl (parts_cons rfl (parts_cons rfl (parts_cons rfl parts_nil)))))) (fun _ => by kernel_rfl) rfl ?_
  intro B125 w126 hN127
  have hlB125 := hN_ge hN127 hb116
  have lt_R_B125 := hN_gtl hN127 (k122).lt
  have lt_Bk_B125 := hN_gtl hN127 (hOk).lt
  have hb128 := low0 hb116 hN127.grw
  refine wpo_move (v := .pointer (some ⟨R, 0, none⟩)) e120 rfl ?_
  have k129 := (k122.grown0 hN127.grw)
  refine wpo_call (vs := [.pointer (some ⟨R, 0, none⟩), .int .i64 6]) gf_26 (args_cons rfl (args_cons rfl args_nil)) rfl (pick_c p1 6 (by omega) _ R bs _ _ _ k129 (by omega) (SlLt.low1 hs hb128 hlo) (by first | exact hb | exact fun b h => hb b (List.mem_of_mem_take h)) (by first | omega | (rw [List.length_take]; omega))) ?_
  rintro _ w135 ⟨k130, rfl, hk131, hk132, kR133, hg134⟩
  have hb136 := grown_trans hb128 hg134
  refine wpo_indexAddr (o' := (k130).toNat * 1) es_29 rfl rfl (by omega) (by omega) (by omega) rfl ?_
  have k137 := (hN127.blk.gn hg134)
  obtain ⟨x138, hx139⟩ := get_lt (l := ([1, 2, 2, 3, 4, 5] : List Int)) (i := (k130).toNat) (show (k130).toNat < 6 by omega)
  have hm140 := List.mem_of_getElem? hx139
  simp only [List.mem_cons, List.not_mem_nil, or_false] at hm140
  refine wpo_load1 (v := .int .i64 x138) ot_3 rfl ((rows_range wide_int k137 hx139) 0 _ rfl) rfl ?_
  refine wpo_buildSlice (ps := [(0, .int .i64 x138)]) (e := 3) (cs := (([x138] : List Int).flatMap icell).toArray) (parts_cons rfl parts_nil) (fun _ => by kernel_rfl) rfl ?_
  intro B141 w142 hN143
  have hlB141 := hN_ge hN143 hb136
  have lt_R_B141 := hN_gtl hN143 (kR133).lt
  have k144 := ((hOk.grown0 hN127.grw).gn hg134)
  have lt_Bk_B141 := hN_gtl hN143 (k144).lt
  have lt_B125_B141 := hN_gtl hN143 (k137).lt
  have hb145 := low0 hb136 hN143.grw
  have k146 := (k144.grown0 hN143.grw)
  have k147 := (kR133.grown0 hN143.grw)
  have k148 := (k137.grown0 hN143.grw)
  refine wpo_append (g := icell) (ys := ks) (zs := ([x138] : List Int)) mk_29 rfl wide_int (by omega) onec_int rfl rfl k146 (rows_sl wide_int hN143.blk) (by simp only [List.length_cons, List.length_nil]; omega) (by omega) rfl ?_
  intro B149 cap150 w151 hO152 hg153 hor154
  have hlB149 : w.heap.size ≤ B149 := by rcases hor154 with h | h; (rw [h]; exact hlBk); (rw [h]; exact hb145.size)
  have ne_R_B149 : R ≠ B149 := by have h := (k147).lt; omega
  have ne_B125_B149 : B125 ≠ B149 := by have h := (k148).lt; omega
  have ne_B141_B149 : B141 ≠ B149 := by have h := (hN143.blk).lt; omega
  have hb155 := low1 hb145 hg153 (by omega)
  refine wpo_assign (v := .slice (some ⟨B149, 0, none⟩) ((ks ++ ([x138] : List Int)).length) cap150) rfl rfl ?_
  refine wpo_nil ?_
  refine blk_n ?_
  refine thn_n ?_
  refine wpf_region ?_
  refine wpo_move (v := .int .i64 n) e119 rfl ?_
  refine wpo_sub (c := n - 1) rfl rfl (by omega) (by omega) (by omega) rfl ?_
  refine wpo_assign (v := .int .i64 (n - 1)) rfl rfl ?_
  refine wpo_nil ?_
  refine thn_n ?_
  have k156 := (k147.gn hg153)
  exact ⟨(n - 1).toNat, by omega, (n - 1), (p1 + 1), B149, cap150, (ks ++ ([x138] : List Int)), rfl, (by omega), (by omega), (by simp only [List.length_append, List.length_cons, List.length_nil]; omega), (by intro y hy; rcases List.mem_append.1 hy with h | h; exact hks y h; (simp at h; omega)), hO152, hlB149, (by omega), rfl, rfl, e120, e121, hb155, k156⟩
 ·
  have h157 := of_decide_eq_false h123
  refine wpf_exit ?_
  refine thn_e ?_
  refine thn_e ?_
  refine blk_e ?_
  refine thn_n ?_
  refine wpf_seq_region ?_
  refine wpo_buildSlice (ps := []) (e := 31) (cs := (([] : List MTh).flatMap MTh.cells).toArray) parts_nil (fun _ => by kernel_rfl) rfl ?_
  intro B158 w159 hN160
  have hlB158 := hN_ge hN160 hb116
  have lt_R_B158 := hN_gtl hN160 (k122).lt
  have lt_Bk_B158 := hN_gtl hN160 (hOk).lt
  have hb161 := low0 hb116 hN160.grw
  refine wpo_assign (v := .slice (some ⟨B158, 0, none⟩) 0 0) rfl rfl ?_
  refine wpo_nil ?_
  refine wpf_seq ?_
  refine wpf_seq_region ?_
  refine wpo_assign (v := .int .i64 0) rfl rfl ?_
  refine wpo_nil ?_
  refine wpf_block ?_
  have k162 := (hOk.grown0 hN160.grw)
  have k163 := (k122.grown0 hN160.grw)
  refine wpf_loopN (fun mm f' w' => ∃ (i : Nat) (p2 : Int) (Bt : Nat) (ct : Nat) (ms : List MTh), mm = ks.length - i ∧ i ≤ ks.length ∧ (p ≤ p2 ∧ p2 ≤ p + 6 + 12 * (i : Int)) ∧ ms.length = i ∧ RowsD 39 3 w.heap.size w' ms ∧ Dw.Own w' Bt 31 8 ct ms.length (ms.flatMap MTh.cells) ∧ w.heap.size ≤ Bt ∧ R ≠ Bt ∧ Bk ≠ Bt ∧ f' 5 = .slice (some ⟨Bt, 0, none⟩) ms.length ct ∧ f' 6 = .int .i64 (i : Int) ∧ f' 0 = .pointer (some ⟨R, 0, none⟩) ∧ f' 2 = .slice none 0 0 ∧ f' 3 = .slice (some ⟨Bk, 0, none⟩) ks.length ck ∧ w.grownBy w' (some R) ∧ Dw.Own w' Bk 3 1 ck ks.length (ks.flatMap icell) ∧ Blk w' R 56 #[.slice a bs.length c, .int .i64 p2]) (ks.length - 0) ⟨0, p1, B158, 0, ([] : List MTh), rfl, (Nat.zero_le _), (by omega), rfl, RowsD.nil, (Own.rows wide_mth hN160.blk (by simp)), hlB158, (by omega), (by omega), rfl, rfl, e120, e121, e118, hb161, k162, k163⟩ ?_
  rintro mm f164 w165 ⟨i, p2, Bt, ct, ms, hm167, hi, hpp2, hml, hRows, hOt, hlBt, hnf0, hnf1, e168, e169, e170, e171, e172, hb166, k173, k174⟩
  have hkl2 := hkl
  refine wpf_seq ?_
  refine wpf_seq_region ?_
  refine wpo_move (v := .int .i64 (i : Int)) e169 rfl ?_
  refine wpo_move (v := .slice (some ⟨Bk, 0, none⟩) ks.length ck) e172 rfl ?_
  refine wpo_len (by kernel_rfl) rfl rfl ?_
  refine wpo_lss (q := decide ((i : Int) < (ks.length : Int))) rfl rfl rfl rfl ?_
  refine wpo_nil ?_
  refine wpf_cond rfl (fun h175 => ?_) (fun h175 => ?_)
  ·
   have h176 := of_decide_eq_true h175
   refine wpf_skip ?_
   refine thn_n ?_
   refine wpf_seq ?_
   refine wpf_block ?_
   refine wpf_seq_region ?_
   refine wpo_assign (v := .int .i64 0) rfl rfl ?_
   refine wpo_nil ?_
   refine wpf_seq ?_
   refine wpf_seq_region ?_
   refine wpo_move (v := .slice (some ⟨Bk, 0, none⟩) ks.length ck) e172 rfl ?_
   refine wpo_move (v := .int .i64 (i : Int)) e169 rfl ?_
   refine wpo_indexAddr (o' := i * 1) es_29 rfl rfl (by omega) (by omega) (by omega) rfl ?_
   obtain ⟨x177, hx178⟩ := get_lt (l := ks) (i := i) (by omega)
   refine wpo_load1 (v := .int .i64 x177) ot_3 rfl ((Own.range wide_int k173 hx178) 0 _ rfl) rfl ?_
   refine wpo_eql (q := decide (x177 = 5)) rfl rfl rfl rfl ?_
   refine wpo_nil ?_
   refine wpf_mid (fun f' w' => (f' 0 = .pointer (some ⟨R, 0, none⟩) ∧ f' 2 = .slice none 0 0 ∧ f' 3 = .slice (some ⟨Bk, 0, none⟩) ks.length ck ∧ f' 5 = .slice (some ⟨Bt, 0, none⟩) ms.length ct ∧ f' 6 = .int .i64 (i : Int) ∧ f' 7 = .int .i64 (if x177 = 5 then 1 else 0)) ∧ w165 = w') ?_ ?_
   ·
    refine wpf_cond rfl (fun h179 => ?_) (fun h179 => ?_)
    ·
     have h180 := of_decide_eq_true h179
     refine wpf_region ?_
     refine wpo_assign (v := .int .i64 1) rfl rfl ?_
     refine wpo_nil ?_
     refine thn_n ?_
     exact ⟨⟨e170, e171, e172, e168, e169, (congrArg (Value.int .i64) (if_pos (of_decide_eq_true h179)).symm)⟩, rfl⟩
    ·
     have h181 := of_decide_eq_false h179
     refine wpf_skip ?_
     refine thn_n ?_
     exact ⟨⟨e170, e171, e172, e168, e169, (congrArg (Value.int .i64) (if_neg (of_decide_eq_false h179)).symm)⟩, rfl⟩
   ·
    rintro f182 _ ⟨⟨e184, e185, e186, e187, e188, e189⟩, rfl⟩
    refine thn_n ?_
    refine wpf_region ?_
    refine wpo_move (v := .slice (some ⟨Bt, 0, none⟩) ms.length ct) e187 rfl ?_
    refine wpo_move (v := .pointer (some ⟨R, 0, none⟩)) e184 rfl ?_
    refine wpo_move (v := .slice (some ⟨Bk, 0, none⟩) ks.length ck) e186 rfl ?_
    refine wpo_move (v := .int .i64 (i : Int)) e188 rfl ?_
    refine wpo_indexAddr (o' := i * 1) es_29 rfl rfl (by omega) (by omega) (by omega) rfl ?_
    refine wpo_load1 (v := .int .i64 x177) ot_3 rfl ((Own.range wide_int k173 hx178) 0 _ rfl) rfl ?_
    refine wpo_move (v := .int .i64 (if x177 = 5 then 1 else 0)) e189 rfl ?_
    refine wpo_call (vs := [.pointer (some ⟨R, 0, none⟩), .int .i64 x177, .int .i64 (if x177 = 5 then 1 else 0)]) gf_42 (args_cons rfl (args_cons rfl (args_cons rfl args_nil))) rfl (l71Thing_c x177 (if x177 = 5 then 1 else 0) p2 (by omega) _ R bs _ _ _ k174 (by omega) (SlLt.low1 hs hb166 hlo) (by first | exact hb | exact fun b h => hb b (List.mem_of_mem_take h)) (by first | omega | (rw [List.length_take]; omega))) ?_
    rintro _ w197 ⟨m190, p191, rfl, hRD192, hp193, hp194, kR195, hg196⟩
    have hb198 := grown_trans hb166 hg196
    have hRD199 := RowD.mono hRD192 hb166.size
    refine wpo_buildSlice (ps := [(0, .agg #[.int .i64 m190.t.kind, .int .i64 m190.t.lab.s, .int .i64 m190.t.lab.v, .int .i64 m190.t.ve, .int .i64 m190.t.num, .slice m190.sa m190.t.slots.length m190.sc, .slice m190.qa m190.t.queue.length m190.qc, .int .i64 m190.t.to])]) (e := 31) (cs := (([m190] : List MTh).flatMap MTh.cells).toArray) (parts_cons rfl parts_nil) (fun _ => by kernel_rfl) rfl ?_
    intro B200 w201 hN202
    have hlB200 := hN_ge hN202 hb198
    have k203 := (k173.gn hg196)
    have lt_Bk_B200 := hN_gtl hN202 (k203).lt
    have lt_R_B200 := hN_gtl hN202 (kR195).lt
    have k204 := (hOt.gn hg196)
    have lt_Bt_B200 := hN_gtl hN202 (k204).lt
    have hb205 := low0 hb198 hN202.grw
    have k206 := (k204.grown0 hN202.grw)
    have k207 := (k203.grown0 hN202.grw)
    have k208 := (kR195.grown0 hN202.grw)
    refine wpo_append (g := MTh.cells) (ys := ms) (zs := ([m190] : List MTh)) mk_23 rfl wide_mth (by omega) onec_mth rfl rfl k206 (rows_sl wide_mth hN202.blk) (by simp only [List.length_cons, List.length_nil]; omega) (by omega) rfl ?_
    intro B209 cap210 w211 hO212 hg213 hor214
    have hlB209 : w.heap.size ≤ B209 := by rcases hor214 with h | h; (rw [h]; exact hlBt); (rw [h]; exact hb205.size)
    have ne_Bk_B209 : Bk ≠ B209 := by have h := (k207).lt; omega
    have ne_R_B209 : R ≠ B209 := by have h := (k208).lt; omega
    have ne_B200_B209 : B200 ≠ B209 := by have h := (hN202.blk).lt; omega
    have hb215 := low1 hb205 hg213 (by omega)
    refine wpo_assign (v := .slice (some ⟨B209, 0, none⟩) ((ms ++ ([m190] : List MTh)).length) cap210) rfl rfl ?_
    refine wpo_nil ?_
    refine blk_n ?_
    refine thn_n ?_
    refine wpf_region ?_
    refine wpo_move (v := .int .i64 (i : Int)) e188 rfl ?_
    refine wpo_add (c := (i : Int) + 1) rfl rfl (by omega) (by omega) (by omega) rfl ?_
    refine wpo_assign (v := .int .i64 ((i : Int) + 1)) rfl rfl ?_
    refine wpo_nil ?_
    refine thn_n ?_
    have hRw216 := (RowsD.typ (RowsD.low (RowsD.lt hRows hg196 (by omega)) hN202.grw) hg213 k206 (by decide) (by decide))
    have k217 := (k207.gn hg213)
    have k218 := (k208.gn hg213)
    exact ⟨ks.length - (i + 1), by omega, (i + 1), p191, B209, cap210, (ms ++ ([m190] : List MTh)), rfl, (by omega), (by omega), (by rw [List.length_append, hml]; rfl), (RowsD.snoc hRw216 (RowD.typ (RowD.low hRD199 hN202.grw) hg213 k206 (by decide) (by decide))), hO212, hlB209, (by omega), (by omega), rfl, rfl, e184, e185, e186, hb215, k217, k218⟩
  ·
   have h219 := of_decide_eq_false h175
   refine wpf_exit ?_
   refine thn_e ?_
   refine thn_e ?_
   refine blk_e ?_
   refine thn_n ?_
   refine wpf_seq ?_
   refine wpf_seq_region ?_
   refine wpo_assign (v := .int .i64 0) rfl rfl ?_
   refine wpo_nil ?_
   refine wpf_block ?_
   obtain ⟨hi, hhi⟩ : ∃ n, n = w165.heap.size := ⟨_, rfl⟩
   have hH := RowsD.hi hRows
   rw [← hhi] at hH
   have hbt := (hOt).lt
   refine wpf_loopN (fun mm f' w' => ∃ (i3 : Nat) (p3 : Int), mm = ms.length - i3 ∧ i3 ≤ ms.length ∧ (p ≤ p3 ∧ p3 ≤ p + 102 + 56 * (i3 : Int)) ∧ RowsD 39 3 w.heap.size w' ms ∧ Dw.Own w' Bt 31 8 ct ms.length (ms.flatMap MTh.cells) ∧ hi ≤ w'.heap.size ∧ f' 8 = .int .i64 (i3 : Int) ∧ f' 0 = .pointer (some ⟨R, 0, none⟩) ∧ f' 2 = .slice none 0 0 ∧ f' 5 = .slice (some ⟨Bt, 0, none⟩) ms.length ct ∧ w.grownBy w' (some R) ∧ Dw.Own w' Bt 31 8 ct ms.length (ms.flatMap MTh.cells) ∧ Blk w' R 56 #[.slice a bs.length c, .int .i64 p3]) (ms.length - 0) ⟨0, p2, rfl, (Nat.zero_le _), (by omega), hRows, hOt, (Nat.le_of_eq hhi), rfl, e170, e171, e168, hb166, hOt, k174⟩ ?_
   rintro mm f220 w221 ⟨i3, p3, hm223, hi3, hpp3, hRows, hOt, hhs, e224, e225, e226, e227, hb222, k228, k229⟩
   refine wpf_seq ?_
   refine wpf_seq_region ?_
   refine wpo_move (v := .int .i64 (i3 : Int)) e224 rfl ?_
   refine wpo_move (v := .slice (some ⟨Bt, 0, none⟩) ms.length ct) e227 rfl ?_
   refine wpo_len (by kernel_rfl) rfl rfl ?_
   refine wpo_lss (q := decide ((i3 : Int) < (ms.length : Int))) rfl rfl rfl rfl ?_
   refine wpo_nil ?_
   refine wpf_cond rfl (fun h230 => ?_) (fun h230 => ?_)
   ·
    have h231 := of_decide_eq_true h230
    refine wpf_skip ?_
    refine thn_n ?_
    refine wpf_seq ?_
    refine wpf_block ?_
    refine wpf_seq_region ?_
    refine wpo_assign (v := .int .i64 0) rfl rfl ?_
    refine wpo_nil ?_
    refine wpf_block ?_
    refine wpf_loopN (fun mm f' w' => ∃ (j : Nat) (p4 : Int), mm = (mAt ms i3).t.slots.length - j ∧ j ≤ (mAt ms i3).t.slots.length ∧ (p3 ≤ p4 ∧ p4 ≤ p3 + 14 * (j : Int)) ∧ RowsD 39 3 w.heap.size w' ms ∧ Dw.Own w' Bt 31 8 ct ms.length (ms.flatMap MTh.cells) ∧ hi ≤ w'.heap.size ∧ f' 9 = .int .i64 (j : Int) ∧ f' 0 = .pointer (some ⟨R, 0, none⟩) ∧ f' 2 = .slice none 0 0 ∧ f' 5 = .slice (some ⟨Bt, 0, none⟩) ms.length ct ∧ f' 8 = .int .i64 (i3 : Int) ∧ w.grownBy w' (some R) ∧ Dw.Own w' Bt 31 8 ct ms.length (ms.flatMap MTh.cells) ∧ Blk w' R 56 #[.slice a bs.length c, .int .i64 p4]) ((mAt ms i3).t.slots.length - 0) ⟨0, p3, rfl, (Nat.zero_le _), (by omega), hRows, hOt, hhs, rfl, e225, e226, e227, e224, hb222, hOt, k229⟩ ?_
    rintro mm f232 w233 ⟨j, p4, hm235, hj, hpp4, hRows, hOt, hhs, e236, e237, e238, e239, e240, hb234, k241, k242⟩
    have hsl4 := (RowsD.at hRows (show i3 < ms.length by omega)).sl
    refine wpf_seq ?_
    refine wpf_seq_region ?_
    refine wpo_move (v := .int .i64 (j : Int)) e236 rfl ?_
    refine wpo_move (v := .slice (some ⟨Bt, 0, none⟩) ms.length ct) e239 rfl ?_
    refine wpo_move (v := .int .i64 (i3 : Int)) e240 rfl ?_
    refine wpo_indexAddr (o' := i3 * 8) es_23 rfl rfl (by omega) (by omega) (by omega) rfl ?_
    refine wpo_fieldAddr (o' := i3 * 8 + 5) fo_31_4 rfl rfl rfl ?_
    have hve243 := (RowsD.at hRows (show i3 < ms.length by omega)).ve
    refine wpo_load1 (v := .slice ((mAt ms i3).sa) ((mAt ms i3).t.slots.length) ((mAt ms i3).sc)) ot_28 rfl ((Own.range wide_mth hOt (mAt_get (show i3 < ms.length by omega))) 5 _ rfl) rfl ?_
    refine wpo_len (by kernel_rfl) rfl rfl ?_
    refine wpo_lss (q := decide ((j : Int) < ((mAt ms i3).t.slots.length : Int))) rfl rfl rfl rfl ?_
    refine wpo_nil ?_
    refine wpf_cond rfl (fun h244 => ?_) (fun h244 => ?_)
    ·
     have h245 := of_decide_eq_true h244
     refine wpf_skip ?_
     refine thn_n ?_
     refine wpf_seq ?_
     refine wpf_block ?_
     refine wpf_seq_region ?_
     refine wpo_move (v := .pointer (some ⟨R, 0, none⟩)) e237 rfl ?_
     refine wpo_call (vs := [.pointer (some ⟨R, 0, none⟩)]) gf_43 (args_cons rfl args_nil) rfl (l71Right_c p4 (by omega) _ R bs _ _ _ k242 (by omega) (SlLt.low1 hs hb234 hlo) (by first | exact hb | exact fun b h => hb b (List.mem_of_mem_take h)) (by first | omega | (rw [List.length_take]; omega))) ?_
     rintro _ w256 ⟨r246, p247, rfl, hr248, hr249, hr250, hr251, hp252, hp253, kR254, hg255⟩
     have hb257 := grown_trans hb234 hg255
     refine wpo_alloc (cs := #[.int .i64 0, .int .i64 0, .bool false, .bool false, .bool false]) zt_39 rfl rfl ?_
     intro B258 w259 hN260
     have hlB258 := hN_ge hN260 hb257
     have hhiB258 : hi ≤ B258 := Nat.le_trans (Nat.le_trans hhs hg255.size) (Nat.le_of_eq hN260.eq.symm)
     have k261 := (hOt.gn hg255)
     have lt_Bt_B258 := hN_gtl hN260 (k261).lt
     have lt_R_B258 := hN_gtl hN260 (kR254).lt
     have hb262 := low0 hb257 hN260.grw
     refine wpo_storen (vs := [.int .i64 r246.th, .int .i64 r246.ve, .bool r246.rd, .bool r246.wr, .bool r246.wk]) (cs' := #[.int .i64 r246.th, .int .i64 r246.ve, .bool r246.rd, .bool r246.wr, .bool r246.wk]) rt_39 rfl rfl rfl (by simp [Value.oneCell']) hN260.blk (Nat.le_of_ble_eq_true rfl) rfl ?_
     intro w263 hS264
     have hb265 := low1 hb262 hS264.grw (by omega)
     refine wpo_nil ?_
     refine wpf_seq_mid (fun f' w' => ∃ (p5 : Int) (r5 : Rt), (p4 ≤ p5 ∧ p5 ≤ p4 + 12) ∧ RB r5 ∧ RowsD 39 3 w.heap.size w' ms ∧ Dw.Own w' Bt 31 8 ct ms.length (ms.flatMap MTh.cells) ∧ hi ≤ w'.heap.size ∧ f' 0 = .pointer (some ⟨R, 0, none⟩) ∧ f' 2 = .slice none 0 0 ∧ f' 5 = .slice (some ⟨Bt, 0, none⟩) ms.length ct ∧ f' 8 = .int .i64 (i3 : Int) ∧ f' 9 = .int .i64 (j : Int) ∧ f' 10 = .pointer (some ⟨B258, 0, none⟩) ∧ w.grownBy w' (some R) ∧ Blk w' B258 39 #[.int .i64 r5.th, .int .i64 r5.ve, .bool r5.rd, .bool r5.wr, .bool r5.wk] ∧ Dw.Own w' Bt 31 8 ct ms.length (ms.flatMap MTh.cells) ∧ Blk w' R 56 #[.slice a bs.length c, .int .i64 p5]) ?_ ?_
     ·
      refine wpf_seq_region ?_
      refine wpo_fieldAddr (o' := 0) fo_39_0 rfl rfl rfl ?_
      refine wpo_load1 (v := .int .i64 r246.th) ot_3 rfl (hS264.blk.cell rfl) rfl ?_
      refine wpo_gtr (q := decide (0 < r246.th)) rfl rfl rfl rfl ?_
      refine wpo_move (v := .bool (decide (0 < r246.th))) rfl rfl ?_
      rcases bcases (decide (0 < r246.th)) with h274 | h274
      ·
       have h275 := of_decide_eq_true h274
       refine wpo_run rfl rfl rfl h274 ?_
       refine wpo_move (v := .pointer (some ⟨R, 0, none⟩)) e237 rfl ?_
       refine wpo_run rfl rfl rfl h274 ?_
       have k276 := ((kR254.grown0 hN260.grw).gn hS264.grw)
       refine wpo_call (vs := [.pointer (some ⟨R, 0, none⟩), .int .i64 40]) gf_26 (args_cons rfl (args_cons rfl args_nil)) rfl (pick_c p247 40 (by omega) _ R bs _ _ _ k276 (by omega) (SlLt.low1 hs hb265 hlo) (by first | exact hb | exact fun b h => hb b (List.mem_of_mem_take h)) (by first | omega | (rw [List.length_take]; omega))) ?_
       rintro _ w282 ⟨k277, rfl, hk278, hk279, kR280, hg281⟩
       have hb283 := grown_trans hb265 hg281
       refine wpo_run rfl rfl rfl h274 ?_
       refine wpo_gtr (q := decide (0 < k277)) rfl rfl rfl rfl ?_
       refine wpo_pickt (v := .bool (decide (0 < k277))) rfl h274 rfl rfl ?_
       refine wpo_nil ?_
       refine wpf_cond rfl (fun h284 => ?_) (fun h284 => ?_)
       ·
        have h285 := of_decide_eq_true h284
        refine wpf_seq ?_
        refine wpf_drawI (m := 7) [[], [0], [], [2], [0, 1, 2, 3], [], [5], [0, 1, 2, 3, 4, 5, 6], [0, 1, 2, 3, 4, 5, 6, 7], [0, 1, 2, 3, 4, 5, 6, 7, 8], [0, 1, 2, 3, 4, 5, 6, 7, 8, 9]] (fun S F w' => ∃ (k325 : Int), w282.grownBy w' (some R) ∧ F 0 = .pointer (some ⟨R, 0, none⟩) ∧ F 2 = .slice none 0 0 ∧ F 5 = .slice (some ⟨Bt, 0, none⟩) ms.length ct ∧ F 8 = .int .i64 (i3 : Int) ∧ F 9 = .int .i64 (j : Int) ∧ F 10 = .pointer (some ⟨B258, 0, none⟩) ∧ (S 3 = false → Blk w' R 56 #[.slice a bs.length c, .int .i64 (p247 + 1)]) ∧ (S 3 = true → F 77 = .int .i64 k325 ∧ 0 ≤ k325 ∧ (k325 < 8 ∨ k325 = 0) ∧ Blk w' R 56 #[.slice a bs.length c, .int .i64 (p247 + 1 + 1)]) ∧ (S 4 = true → F 78 = .int .i64 (r246.th + k325)) ∧ Vals S F [(0, 74, .pointer (some ⟨B258, 0, none⟩)), (1, 75, .int .i64 r246.th), (2, 76, .pointer (some ⟨R, 0, none⟩)), (5, 79, .slice (some ⟨Bt, 0, none⟩) ms.length ct), (6, 80, .int .i64 (ms.length : Int))]) mixed_ (by kernel_rfl) ⟨0, grown_drew _, e237, e238, e239, e240, e236, rfl, fun _ => (kR280).grown0 (grown_drew _), not_begun, not_begun, vals_0 _⟩ ?_ ?_
        ·
         refine preL_cons (fun S F w332 hS hbef hcl hI => ?_) ?_
         ·
          obtain ⟨k325, hi333, e334, e335, e336, e337, e338, e339, c_old_R, c_3, c_4, hvs⟩ := hI
          have hb340 := grown_trans hb283 hi333
          refine wpo_fieldAddr (o' := 0) fo_39_0 e339 rfl rfl ?_
          exact wpo_nil ⟨k325, hi333, e334, e335, e336, e337, e338, e339, fun h => c_old_R h, c_3, fun h => undone 4 hS hcl rfl h, Vals.up 0 hvs rfl rfl rfl⟩
         refine preL_cons (fun S F w341 hS hbef hcl hI => ?_) ?_
         ·
          obtain ⟨k325, hi342, e343, e344, e345, e346, e347, e348, c_old_R, c_3, c_4, hvs⟩ := hI
          have hb349 := grown_trans hb283 hi342
          have ev350 := Vals.at 0 hvs rfl (ready_of 0 hbef rfl)
          have k351 := ((hS264.blk.gn hg281).gn hi342)
          refine wpo_load1 (v := .int .i64 r246.th) ot_3 ev350 (k351.cell rfl) rfl ?_
          exact wpo_nil ⟨k325, hi342, e343, e344, e345, e346, e347, e348, fun h => c_old_R h, c_3, fun h => undone 4 hS hcl rfl h, Vals.up 1 hvs rfl rfl rfl⟩
         refine preL_cons (fun S F w352 hS hbef hcl hI => ?_) ?_
         ·
          obtain ⟨k325, hi353, e354, e355, e356, e357, e358, e359, c_old_R, c_3, c_4, hvs⟩ := hI
          have hb360 := grown_trans hb283 hi353
          refine wpo_move (v := .pointer (some ⟨R, 0, none⟩)) e354 rfl ?_
          exact wpo_nil ⟨k325, hi353, e354, e355, e356, e357, e358, e359, fun h => c_old_R h, fun h => undone 3 hS hcl rfl h, fun h => undone 4 hS hcl rfl h, Vals.up 2 hvs rfl rfl rfl⟩
         refine preL_cons (fun S F w361 hS hbef hcl hI => ?_) ?_
         ·
          obtain ⟨k325, hi362, e363, e364, e365, e366, e367, e368, c_old_R, c_3, c_4, hvs⟩ := hI
          have hb369 := grown_trans hb283 hi362
          have ev370 := Vals.at 2 hvs rfl (ready_of 2 hbef rfl)
          refine wpo_call (vs := [.pointer (some ⟨R, 0, none⟩), .int .i64 8]) gf_26 (args_cons ev370 (args_cons rfl args_nil)) rfl (pick_c (p247 + 1) 8 (by omega) _ R bs _ _ _ (c_old_R hS) (by omega) (SlLt.low1 hs hb369 hlo) (by first | exact hb | exact fun b h => hb b (List.mem_of_mem_take h)) (by first | omega | (rw [List.length_take]; omega))) ?_
          rintro _ w376 ⟨k371, rfl, hk372, hk373, kR374, hg375⟩
          have hb377 := grown_trans hb369 hg375
          exact wpo_nil ⟨k371, (grown_trans hi362 hg375), e363, e364, e365, e366, e367, e368, fun h => not_open h, fun _ => ⟨rfl, hk372, hk373, kR374⟩, fun h => undone 4 hS hcl rfl h, Vals.keep hvs rfl⟩
         refine preL_cons (fun S F w378 hS hbef hcl hI => ?_) ?_
         ·
          obtain ⟨k325, hi379, e380, e381, e382, e383, e384, e385, c_old_R, c_3, c_4, hvs⟩ := hI
          have hb386 := grown_trans hb283 hi379
          have ev387 := Vals.at 0 hvs rfl (ready_of 0 hbef rfl)
          have ev388 := Vals.at 1 hvs rfl (ready_of 1 hbef rfl)
          have ev389 := Vals.at 2 hvs rfl (ready_of 2 hbef rfl)
          obtain ⟨e390, hk326, hk327, ks3_R⟩ := c_3 (ready_of 3 hbef rfl)
          refine wpo_add (c := r246.th + k325) ev388 e390 (by omega) (by omega) (by omega) rfl ?_
          exact wpo_nil ⟨k325, hi379, e380, e381, e382, e383, e384, e385, fun hn => not_open ((ready_of 3 hbef rfl).symm.trans hn), c_3, fun _ => rfl, Vals.keep hvs rfl⟩
         refine preL_cons (fun S F w391 hS hbef hcl hI => ?_) ?_
         ·
          obtain ⟨k325, hi392, e393, e394, e395, e396, e397, e398, c_old_R, c_3, c_4, hvs⟩ := hI
          have hb399 := grown_trans hb283 hi392
          refine wpo_move (v := .slice (some ⟨Bt, 0, none⟩) ms.length ct) e395 rfl ?_
          exact wpo_nil ⟨k325, hi392, e393, e394, e395, e396, e397, e398, fun h => c_old_R h, c_3, c_4, Vals.up 3 hvs rfl rfl rfl⟩
         refine preL_cons (fun S F w400 hS hbef hcl hI => ?_) ?_
         ·
          obtain ⟨k325, hi401, e402, e403, e404, e405, e406, e407, c_old_R, c_3, c_4, hvs⟩ := hI
          have hb408 := grown_trans hb283 hi401
          have ev409 := Vals.at 3 hvs rfl (ready_of 5 hbef rfl)
          refine wpo_len (by kernel_rfl) ev409 rfl ?_
          exact wpo_nil ⟨k325, hi401, e402, e403, e404, e405, e406, e407, fun h => c_old_R h, c_3, c_4, Vals.up 4 hvs rfl rfl rfl⟩
         exact preL_nil
        ·
         intro S F w410 hall hI
         obtain ⟨k325, hi411, e412, e413, e414, e415, e416, e417, c_old_R, c_3, c_4, hvs⟩ := hI
         have hb418 := grown_trans hb283 hi411
         have ev419 := Vals.at 0 hvs rfl (hall 0 (by decide))
         have ev420 := Vals.at 1 hvs rfl (hall 1 (by decide))
         have ev421 := Vals.at 2 hvs rfl (hall 2 (by decide))
         obtain ⟨e422, hk326, hk327, ks3_R⟩ := c_3 (hall 3 (by decide))
         obtain e423 := c_4 (hall 4 (by decide))
         have ev424 := Vals.at 3 hvs rfl (hall 5 (by decide))
         have ev425 := Vals.at 4 hvs rfl (hall 6 (by decide))
         have hr426 := Int.emod_nonneg (r246.th + k325) (show (ms.length : Int) ≠ 0 by omega)
         have hr427 := Int.emod_lt_of_pos (r246.th + k325) (show 0 < (ms.length : Int) by omega)
         refine wpo_rem (c := (r246.th + k325) % (ms.length : Int)) e423 ev425 (by omega) (by omega) (by omega) rfl rfl ?_
         refine wpo_add (c := 1 + ((r246.th + k325) % (ms.length : Int))) rfl rfl (by omega) (by omega) (by omega) rfl ?_
         refine wpo_fieldAddr (o' := 0) fo_39_0 e417 rfl rfl ?_
         have k428 := ((hS264.blk.gn hg281).gn hi411)
         refine wpo_store1 (v := .int .i64 (1 + ((r246.th + k325) % (ms.length : Int)))) (cs' := #[.int .i64 (1 + ((r246.th + k325) % (ms.length : Int))), .int .i64 r246.ve, .bool r246.rd, .bool r246.wr, .bool r246.wk]) ot_3 rfl rfl rfl k428 (Nat.le_of_ble_eq_true rfl) rfl ?_
         intro w429 hS430
         have hb431 := low1 hb418 hS430.grw (by omega)
         refine wpo_nil ?_
         refine thn_n ?_
         refine wpf_seq_region ?_
         refine wpo_move (v := .slice (some ⟨Bt, 0, none⟩) ms.length ct) e414 rfl ?_
         refine wpo_fieldAddr (o' := 0) fo_39_0 e417 rfl rfl ?_
         refine wpo_load1 (v := .int .i64 (1 + ((r246.th + k325) % (ms.length : Int)))) ot_3 rfl (hS430.blk.cell rfl) rfl ?_
         refine wpo_sub (c := (1 + ((r246.th + k325) % (ms.length : Int))) - 1) rfl rfl (by omega) (by omega) (by omega) rfl ?_
         refine wpo_indexAddr (o' := ((1 + ((r246.th + k325) % (ms.length : Int))) - 1).toNat * 8) es_23 rfl rfl (by omega) (by omega) (by omega) rfl ?_
         refine wpo_fieldAddr (o' := ((1 + ((r246.th + k325) % (ms.length : Int))) - 1).toNat * 8 + 3) fo_31_2 rfl rfl rfl ?_
         have k432 := (((((k261.grown0 hN260.grw).gn hS264.grw).gn hg281).gn hi411).gn hS430.grw)
         have hRw434 := (RowsD.ge (RowsD.lt (RowsD.lt (RowsD.ge (RowsD.low (RowsD.lt hRows hg255 (by omega)) hN260.grw) hS264.grw hH (by omega)) hg281 (by omega)) hi411 (by omega)) hS430.grw hH (by omega))
         have hve433 := (RowsD.at hRw434 (show ((1 + ((r246.th + k325) % (ms.length : Int))) - 1).toNat < ms.length by omega)).ve
         refine wpo_load1 (v := .int .i64 ((mAt ms (((1 + ((r246.th + k325) % (ms.length : Int))) - 1).toNat)).t.ve)) ot_3 rfl ((Own.range wide_mth k432 (mAt_get (show ((1 + ((r246.th + k325) % (ms.length : Int))) - 1).toNat < ms.length by omega))) 3 _ rfl) rfl ?_
         refine wpo_fieldAddr (o' := 1) fo_39_1 e417 rfl rfl ?_
         refine wpo_store1 (v := .int .i64 ((mAt ms (((1 + ((r246.th + k325) % (ms.length : Int))) - 1).toNat)).t.ve)) (cs' := #[.int .i64 (1 + ((r246.th + k325) % (ms.length : Int))), .int .i64 ((mAt ms (((1 + ((r246.th + k325) % (ms.length : Int))) - 1).toNat)).t.ve), .bool r246.rd, .bool r246.wr, .bool r246.wk]) ot_3 rfl rfl rfl hS430.blk (Nat.le_of_ble_eq_true rfl) rfl ?_
         intro w435 hS436
         have hb437 := low1 hb431 hS436.grw (by omega)
         refine wpo_nil ?_
         refine wpf_seq_region ?_
         refine wpo_fieldAddr (o' := 1) fo_39_1 e417 rfl rfl ?_
         refine wpo_load1 (v := .int .i64 ((mAt ms (((1 + ((r246.th + k325) % (ms.length : Int))) - 1).toNat)).t.ve)) ot_3 rfl (hS436.blk.cell rfl) rfl ?_
         refine wpo_gtr (q := decide (0 < (mAt ms (((1 + ((r246.th + k325) % (ms.length : Int))) - 1).toNat)).t.ve)) rfl rfl rfl rfl ?_
         refine wpo_move (v := .bool (decide (0 < (mAt ms (((1 + ((r246.th + k325) % (ms.length : Int))) - 1).toNat)).t.ve))) rfl rfl ?_
         rcases bcases (decide (0 < (mAt ms (((1 + ((r246.th + k325) % (ms.length : Int))) - 1).toNat)).t.ve)) with h446 | h446
         ·
          have h447 := of_decide_eq_true h446
          refine wpo_run rfl rfl rfl h446 ?_
          refine wpo_move (v := .pointer (some ⟨R, 0, none⟩)) e412 rfl ?_
          refine wpo_run rfl rfl rfl h446 ?_
          have k448 := ((ks3_R.gn hS430.grw).gn hS436.grw)
          refine wpo_call (vs := [.pointer (some ⟨R, 0, none⟩), .int .i64 5]) gf_26 (args_cons rfl (args_cons rfl args_nil)) rfl (pick_c (p247 + 1 + 1) 5 (by omega) _ R bs _ _ _ k448 (by omega) (SlLt.low1 hs hb437 hlo) (by first | exact hb | exact fun b h => hb b (List.mem_of_mem_take h)) (by first | omega | (rw [List.length_take]; omega))) ?_
          rintro _ w454 ⟨k449, rfl, hk450, hk451, kR452, hg453⟩
          have hb455 := grown_trans hb437 hg453
          refine wpo_run rfl rfl rfl h446 ?_
          refine wpo_eql (q := decide (k449 = 0)) rfl rfl rfl rfl ?_
          refine wpo_pickt (v := .bool (decide (k449 = 0))) rfl h446 rfl rfl ?_
          refine wpo_nil ?_
          refine wpf_cond rfl (fun h456 => ?_) (fun h456 => ?_)
          ·
           have h457 := of_decide_eq_true h456
           refine wpf_region ?_
           refine wpo_fieldAddr (o' := 1) fo_39_1 e417 rfl rfl ?_
           have k458 := (hS436.blk.gn hg453)
           refine wpo_load1 (v := .int .i64 ((mAt ms (((1 + ((r246.th + k325) % (ms.length : Int))) - 1).toNat)).t.ve)) ot_3 rfl (k458.cell rfl) rfl ?_
           refine wpo_sub (c := ((mAt ms (((1 + ((r246.th + k325) % (ms.length : Int))) - 1).toNat)).t.ve) - 1) rfl rfl (by omega) (by omega) (by omega) rfl ?_
           refine wpo_fieldAddr (o' := 1) fo_39_1 e417 rfl rfl ?_
           refine wpo_store1 (v := .int .i64 (((mAt ms (((1 + ((r246.th + k325) % (ms.length : Int))) - 1).toNat)).t.ve) - 1)) (cs' := #[.int .i64 (1 + ((r246.th + k325) % (ms.length : Int))), .int .i64 (((mAt ms (((1 + ((r246.th + k325) % (ms.length : Int))) - 1).toNat)).t.ve) - 1), .bool r246.rd, .bool r246.wr, .bool r246.wk]) ot_3 rfl rfl rfl k458 (Nat.le_of_ble_eq_true rfl) rfl ?_
           intro w459 hS460
           have hb461 := low1 hb455 hS460.grw (by omega)
           refine wpo_nil ?_
           refine thn_n ?_
           have hRw462 := (RowsD.ge (RowsD.lt (RowsD.ge hRw434 hS436.grw hH (by omega)) hg453 (by omega)) hS460.grw hH (by omega))
           have k463 := (((k432.gn hS436.grw).gn hg453).gn hS460.grw)
           have k464 := (kR452.gn hS460.grw)
           exact ⟨(p247 + 1 + 1 + 1), (⟨1 + ((r246.th + k325) % (ms.length : Int)), ((mAt ms (((1 + ((r246.th + k325) % (ms.length : Int))) - 1).toNat)).t.ve) - 1, r246.rd, r246.wr, r246.wk⟩ : Rt), (by omega), ⟨show (-1 : Int) ≤ 1 + ((r246.th + k325) % (ms.length : Int)) by omega, show 1 + ((r246.th + k325) % (ms.length : Int)) ≤ (9 : Int) by omega, show (-1 : Int) ≤ ((mAt ms (((1 + ((r246.th + k325) % (ms.length : Int))) - 1).toNat)).t.ve) - 1 by omega, show ((mAt ms (((1 + ((r246.th + k325) % (ms.length : Int))) - 1).toNat)).t.ve) - 1 ≤ (9 : Int) by omega⟩, hRw462, k463, (Nat.le_trans (Nat.le_trans (Nat.le_trans (Nat.le_trans (Nat.le_trans (Nat.le_trans (Nat.le_trans (Nat.le_trans (Nat.le_trans hhs hg255.size) hN260.grw.size) hS264.grw.size) hg281.size) hi411.size) hS430.grw.size) hS436.grw.size) hg453.size) hS460.grw.size), e412, e413, e414, e415, e416, e417, hb461, hS460.blk, k463, k464⟩
          ·
           have h465 := of_decide_eq_false h456
           refine wpf_skip ?_
           refine thn_n ?_
           have hRw466 := (RowsD.lt (RowsD.ge hRw434 hS436.grw hH (by omega)) hg453 (by omega))
           have k467 := ((k432.gn hS436.grw).gn hg453)
           have k468 := (hS436.blk.gn hg453)
           exact ⟨(p247 + 1 + 1 + 1), (⟨1 + ((r246.th + k325) % (ms.length : Int)), (mAt ms (((1 + ((r246.th + k325) % (ms.length : Int))) - 1).toNat)).t.ve, r246.rd, r246.wr, r246.wk⟩ : Rt), (by omega), ⟨show (-1 : Int) ≤ 1 + ((r246.th + k325) % (ms.length : Int)) by omega, show 1 + ((r246.th + k325) % (ms.length : Int)) ≤ (9 : Int) by omega, show (-1 : Int) ≤ (mAt ms (((1 + ((r246.th + k325) % (ms.length : Int))) - 1).toNat)).t.ve by omega, show (mAt ms (((1 + ((r246.th + k325) % (ms.length : Int))) - 1).toNat)).t.ve ≤ (9 : Int) by omega⟩, hRw466, k467, (Nat.le_trans (Nat.le_trans (Nat.le_trans (Nat.le_trans (Nat.le_trans (Nat.le_trans (Nat.le_trans (Nat.le_trans hhs hg255.size) hN260.grw.size) hS264.grw.size) hg281.size) hi411.size) hS430.grw.size) hS436.grw.size) hg453.size), e412, e413, e414, e415, e416, e417, hb455, k468, k467, kR452⟩
         ·
          have h469 := of_decide_eq_false h446
          iterate 3 refine wpo_pass rfl rfl rfl h446 rfl ?_
          refine wpo_pickf (v := .bool false) rfl h446 rfl rfl ?_
          refine wpo_nil ?_
          refine wpf_condf rfl rfl ?_
          refine wpf_skip ?_
          refine thn_n ?_
          have hRw470 := (RowsD.ge hRw434 hS436.grw hH (by omega))
          have k471 := (k432.gn hS436.grw)
          have k472 := ((ks3_R.gn hS430.grw).gn hS436.grw)
          exact ⟨(p247 + 1 + 1), (⟨1 + ((r246.th + k325) % (ms.length : Int)), (mAt ms (((1 + ((r246.th + k325) % (ms.length : Int))) - 1).toNat)).t.ve, r246.rd, r246.wr, r246.wk⟩ : Rt), (by omega), ⟨show (-1 : Int) ≤ 1 + ((r246.th + k325) % (ms.length : Int)) by omega, show 1 + ((r246.th + k325) % (ms.length : Int)) ≤ (9 : Int) by omega, show (-1 : Int) ≤ (mAt ms (((1 + ((r246.th + k325) % (ms.length : Int))) - 1).toNat)).t.ve by omega, show (mAt ms (((1 + ((r246.th + k325) % (ms.length : Int))) - 1).toNat)).t.ve ≤ (9 : Int) by omega⟩, hRw470, k471, (Nat.le_trans (Nat.le_trans (Nat.le_trans (Nat.le_trans (Nat.le_trans (Nat.le_trans (Nat.le_trans hhs hg255.size) hN260.grw.size) hS264.grw.size) hg281.size) hi411.size) hS430.grw.size) hS436.grw.size), e412, e413, e414, e415, e416, e417, hb437, hS436.blk, k471, k472⟩
       ·
        have h473 := of_decide_eq_false h284
        refine wpf_skip ?_
        refine thn_n ?_
        have hRw474 := (RowsD.lt (RowsD.ge (RowsD.low (RowsD.lt hRows hg255 (by omega)) hN260.grw) hS264.grw hH (by omega)) hg281 (by omega))
        have k475 := (((k261.grown0 hN260.grw).gn hS264.grw).gn hg281)
        have k476 := (hS264.blk.gn hg281)
        exact ⟨(p247 + 1), r246, (by omega), ⟨show (-1 : Int) ≤ r246.th by omega, show r246.th ≤ (9 : Int) by omega, show (-1 : Int) ≤ r246.ve by omega, show r246.ve ≤ (9 : Int) by omega⟩, hRw474, k475, (Nat.le_trans (Nat.le_trans (Nat.le_trans (Nat.le_trans hhs hg255.size) hN260.grw.size) hS264.grw.size) hg281.size), e237, e238, e239, e240, e236, rfl, hb283, k476, k475, kR280⟩
      ·
       have h477 := of_decide_eq_false h274
       iterate 3 refine wpo_pass rfl rfl rfl h274 rfl ?_
       refine wpo_pickf (v := .bool false) rfl h274 rfl rfl ?_
       refine wpo_nil ?_
       refine wpf_condf rfl rfl ?_
       refine wpf_skip ?_
       refine thn_n ?_
       have hRw478 := (RowsD.ge (RowsD.low (RowsD.lt hRows hg255 (by omega)) hN260.grw) hS264.grw hH (by omega))
       have k479 := ((k261.grown0 hN260.grw).gn hS264.grw)
       have k480 := ((kR254.grown0 hN260.grw).gn hS264.grw)
       exact ⟨p247, r246, (by omega), ⟨show (-1 : Int) ≤ r246.th by omega, show r246.th ≤ (9 : Int) by omega, show (-1 : Int) ≤ r246.ve by omega, show r246.ve ≤ (9 : Int) by omega⟩, hRw478, k479, (Nat.le_trans (Nat.le_trans (Nat.le_trans hhs hg255.size) hN260.grw.size) hS264.grw.size), e237, e238, e239, e240, e236, rfl, hb265, hS264.blk, k479, k480⟩
     ·
      rintro f481 w482 ⟨p5, r5, hpp5, hr5, hRows, hOt, hhs, e484, e485, e486, e487, e488, e489, hb483, k490, k491, k492⟩
      have hr5a := hr5.1; have hr5b := hr5.2.1; have hr5c := hr5.2.2.1; have hr5d := hr5.2.2.2
      refine wpf_seq ?_
      obtain ⟨S524, xs525, hSa526, hSl527, hSO528, hSn529⟩ := RowD.slot (RowsD.at hRows (show i3 < ms.length by omega)) (by omega)
      have hSh530 := hH _ (List.mem_of_getElem? (mAt_get (show i3 < ms.length by omega))) _ (Or.inl hSa526)
      refine wpf_draw (m := 7) (vals := [(104, .slice (some ⟨Bt, 0, none⟩) ms.length ct), (105, .int .i64 (i3 : Int)), (106, .pointer (some ⟨Bt, i3 * 8, none⟩)), (107, .pointer (some ⟨Bt, i3 * 8 + 5, none⟩)), (108, .slice ((mAt ms i3).sa) ((mAt ms i3).t.slots.length) ((mAt ms i3).sc)), (109, .int .i64 (j : Int)), (110, .agg #[.int .i64 r5.th, .int .i64 r5.ve, .bool r5.rd, .bool r5.wr, .bool r5.wk])]) (fun w' => w482.grownBy w' none) mixed_ (by kernel_rfl) (grown_drew _) ?_ ?_
      ·
       refine yll_cons rfl (fun w532 hi533 => ?_) ?_
       ·
        have hb534 := low0 hb483 hi533
        refine wpo_move (v := .slice (some ⟨Bt, 0, none⟩) ms.length ct) e486 rfl ?_
        exact wpo_nil ⟨rfl, hi533⟩
       refine yll_cons rfl (fun w535 hi536 => ?_) ?_
       ·
        have hb537 := low0 hb483 hi536
        refine wpo_move (v := .int .i64 (i3 : Int)) e487 rfl ?_
        exact wpo_nil ⟨rfl, hi536⟩
       refine yll_cons rfl (fun w538 hi539 => ?_) ?_
       ·
        have hb540 := low0 hb483 hi539
        refine wpo_indexAddr (o' := i3 * 8) es_23 rfl rfl (by omega) (by omega) (by omega) rfl ?_
        exact wpo_nil ⟨rfl, hi539⟩
       refine yll_cons rfl (fun w541 hi542 => ?_) ?_
       ·
        have hb543 := low0 hb483 hi542
        refine wpo_fieldAddr (o' := i3 * 8 + 5) fo_31_4 rfl rfl rfl ?_
        exact wpo_nil ⟨rfl, hi542⟩
       refine yll_cons rfl (fun w544 hi545 => ?_) ?_
       ·
        have hb546 := low0 hb483 hi545
        have k547 := (hOt.grown0 hi545)
        have hRw549 := (RowsD.low hRows hi545)
        have hve548 := (RowsD.at hRw549 (show i3 < ms.length by omega)).ve
        refine wpo_load1 (v := .slice ((mAt ms i3).sa) ((mAt ms i3).t.slots.length) ((mAt ms i3).sc)) ot_28 rfl ((Own.range wide_mth k547 (mAt_get (show i3 < ms.length by omega))) 5 _ rfl) rfl ?_
        exact wpo_nil ⟨rfl, hi545⟩
       refine yll_cons rfl (fun w550 hi551 => ?_) ?_
       ·
        have hb552 := low0 hb483 hi551
        refine wpo_move (v := .int .i64 (j : Int)) e488 rfl ?_
        exact wpo_nil ⟨rfl, hi551⟩
       refine yll_cons rfl (fun w553 hi554 => ?_) ?_
       ·
        have hb555 := low0 hb483 hi554
        have k556 := (k490.grown0 hi554)
        refine wpo_loadn (vs := [.int .i64 r5.th, .int .i64 r5.ve, .bool r5.rd, .bool r5.wr, .bool r5.wk]) rt_39 e489 rfl (k556.rangeL 0 5 rfl) rfl ?_
        exact wpo_nil ⟨rfl, hi554⟩
       exact yll_nil
      ·
       intro w557 hi558
       have hb559 := low0 hb483 hi558
       refine wpo_indexE es_28 rfl rfl hSa526 (Nat.zero_add _) (by omega) (by omega) rfl ?_
       have hSO560 := (hSO528.grown0 hi558)
       have hRB564 : RB r5 := ⟨show (-1 : Int) ≤ r5.th by omega, show r5.th ≤ (9 : Int) by omega, show (-1 : Int) ≤ r5.ve by omega, show r5.ve ≤ (9 : Int) by omega⟩
       have k565 := (k490.grown0 hi558)
       have k567 := (hOt.grown0 hi558)
       have hne566 := own_ne k567 hSO560 (by decide)
       have k568 := (k492.grown0 hi558)
       have hRw569 := (RowsD.low hRows hi558)
       refine wpo_storeD (z' := r5) rt_39 rfl rfl hSO560 (by omega) rfl ?_
       intro w561 hp562 hg563
       have hb570 := low1 hb559 hg563 (by omega)
       refine wpo_nil ?_
       refine thn_n ?_
       refine wpf_seq_region ?_
       have k587 := (k565.gn hg563)
       refine wpo_loadn (vs := [.int .i64 r5.th, .int .i64 r5.ve, .bool r5.rd, .bool r5.wr, .bool r5.wk]) rt_39 e489 rfl (k587.rangeL 0 5 rfl) rfl ?_
       refine wpo_call (vs := [.agg #[.int .i64 r5.th, .int .i64 r5.ve, .bool r5.rd, .bool r5.wr, .bool r5.wk]]) gf_44 (args_cons rfl args_nil) rfl (sRightOk_c r5 _) ?_
       rintro _ w588 ⟨rfl, hg589⟩
       have hb590 := low0 hb570 hg589
       refine wpo_not (b' := !rightOk r5) rfl rfl rfl ?_
       refine wpo_move (v := .bool (!rightOk r5)) rfl rfl ?_
       rcases bcases (!rightOk r5) with h591 | h591
       ·
        have h592 := nt_t h591
        refine wpo_run rfl rfl rfl h591 ?_
        refine wpo_move (v := .pointer (some ⟨R, 0, none⟩)) e484 rfl ?_
        refine wpo_run rfl rfl rfl h591 ?_
        have k593 := ((k568.gn hg563).grown0 hg589)
        refine wpo_call (vs := [.pointer (some ⟨R, 0, none⟩), .int .i64 3]) gf_26 (args_cons rfl (args_cons rfl args_nil)) rfl (pick_c p5 3 (by omega) _ R bs _ _ _ k593 (by omega) (SlLt.low1 hs hb590 hlo) (by first | exact hb | exact fun b h => hb b (List.mem_of_mem_take h)) (by first | omega | (rw [List.length_take]; omega))) ?_
        rintro _ w599 ⟨k594, rfl, hk595, hk596, kR597, hg598⟩
        have hb600 := grown_trans hb590 hg598
        refine wpo_run rfl rfl rfl h591 ?_
        refine wpo_gtr (q := decide (0 < k594)) rfl rfl rfl rfl ?_
        refine wpo_pickt (v := .bool (decide (0 < k594))) rfl h591 rfl rfl ?_
        refine wpo_nil ?_
        refine wpf_cond rfl (fun h601 => ?_) (fun h601 => ?_)
        ·
         have h602 := of_decide_eq_true h601
         refine wpf_region ?_
         refine wpo_move (v := .slice (some ⟨Bt, 0, none⟩) ms.length ct) e486 rfl ?_
         refine wpo_move (v := .int .i64 (i3 : Int)) e487 rfl ?_
         refine wpo_indexAddr (o' := i3 * 8) es_23 rfl rfl (by omega) (by omega) (by omega) rfl ?_
         refine wpo_fieldAddr (o' := i3 * 8 + 5) fo_31_4 rfl rfl rfl ?_
         have k603 := (((k567.gn hg563).grown0 hg589).gn hg598)
         have hRw605 := (RowsD.lt (RowsD.low (RowsD.put hRw569 hp562 hg563 hRB564 hSO560 (by decide)) hg589) hg598 (by omega))
         have hve604 := (RowsD.at hRw605 (show i3 < ms.length by omega)).ve
         refine wpo_load1 (v := .slice ((mAt ms i3).sa) ((mAt ms i3).t.slots.length) ((mAt ms i3).sc)) ot_28 rfl ((Own.range wide_mth k603 (mAt_get (show i3 < ms.length by omega))) 5 _ rfl) rfl ?_
         refine wpo_move (v := .int .i64 (j : Int)) e488 rfl ?_
         refine wpo_build (ps := []) (v := .agg #[.int .i64 0, .int .i64 0, .bool false, .bool false, .bool false]) parts_nil (by kernel_rfl) rfl ?_
         obtain ⟨S606, xs607, hSa608, hSl609, hSO610, hSn611⟩ := RowD.slot (RowsD.at hRw605 (show i3 < ms.length by omega)) (by omega)
         have hSh612 := hH _ (List.mem_of_getElem? (mAt_get (show i3 < ms.length by omega))) _ (Or.inl hSa608)
         refine wpo_indexE es_28 rfl rfl hSa608 (Nat.zero_add _) (by omega) (by omega) rfl ?_
         have hSO613 := hSO610
         have hRB617 : RB (⟨0, 0, false, false, false⟩ : Rt) := ⟨show (-1 : Int) ≤ 0 by omega, show 0 ≤ (9 : Int) by omega, show (-1 : Int) ≤ 0 by omega, show 0 ≤ (9 : Int) by omega⟩
         have k618 := ((k587.grown0 hg589).gn hg598)
         have hne619 := own_ne k603 hSO613 (by decide)
         refine wpo_storeD (z' := (⟨0, 0, false, false, false⟩ : Rt)) rt_39 rfl rfl hSO613 (by omega) rfl ?_
         intro w614 hp615 hg616
         have hb620 := low1 hb600 hg616 (by omega)
         refine wpo_nil ?_
         refine blk_n ?_
         refine thn_n ?_
         refine wpf_region ?_
         refine wpo_move (v := .int .i64 (j : Int)) e488 rfl ?_
         refine wpo_add (c := (j : Int) + 1) rfl rfl (by omega) (by omega) (by omega) rfl ?_
         refine wpo_assign (v := .int .i64 ((j : Int) + 1)) rfl rfl ?_
         refine wpo_nil ?_
         refine thn_n ?_
         have hRw621 := (RowsD.put hRw605 hp615 hg616 hRB617 hSO613 (by decide))
         have k622 := (k603.gn hg616)
         have k623 := (kR597.gn hg616)
         exact ⟨(mAt ms i3).t.slots.length - (j + 1), by omega, (j + 1), (p5 + 1), rfl, (by omega), (by omega), hRw621, k622, (Nat.le_trans (Nat.le_trans (Nat.le_trans (Nat.le_trans (Nat.le_trans hhs hi558.size) hg563.size) hg589.size) hg598.size) hg616.size), rfl, e484, e485, e486, e487, hb620, k622, k623⟩
        ·
         have h624 := of_decide_eq_false h601
         refine wpf_skip ?_
         refine blk_n ?_
         refine thn_n ?_
         refine wpf_region ?_
         refine wpo_move (v := .int .i64 (j : Int)) e488 rfl ?_
         refine wpo_add (c := (j : Int) + 1) rfl rfl (by omega) (by omega) (by omega) rfl ?_
         refine wpo_assign (v := .int .i64 ((j : Int) + 1)) rfl rfl ?_
         refine wpo_nil ?_
         refine thn_n ?_
         have hRw625 := (RowsD.lt (RowsD.low (RowsD.put hRw569 hp562 hg563 hRB564 hSO560 (by decide)) hg589) hg598 (by omega))
         have k626 := (((k567.gn hg563).grown0 hg589).gn hg598)
         exact ⟨(mAt ms i3).t.slots.length - (j + 1), by omega, (j + 1), (p5 + 1), rfl, (by omega), (by omega), hRw625, k626, (Nat.le_trans (Nat.le_trans (Nat.le_trans (Nat.le_trans hhs hi558.size) hg563.size) hg589.size) hg598.size), rfl, e484, e485, e486, e487, hb600, k626, kR597⟩
       ·
        have h627 := nt_f h591
        iterate 3 refine wpo_pass rfl rfl rfl h591 rfl ?_
        refine wpo_pickf (v := .bool false) rfl h591 rfl rfl ?_
        refine wpo_nil ?_
        refine wpf_condf rfl rfl ?_
        refine wpf_skip ?_
        refine blk_n ?_
        refine thn_n ?_
        refine wpf_region ?_
        refine wpo_move (v := .int .i64 (j : Int)) e488 rfl ?_
        refine wpo_add (c := (j : Int) + 1) rfl rfl (by omega) (by omega) (by omega) rfl ?_
        refine wpo_assign (v := .int .i64 ((j : Int) + 1)) rfl rfl ?_
        refine wpo_nil ?_
        refine thn_n ?_
        have hRw628 := (RowsD.low (RowsD.put hRw569 hp562 hg563 hRB564 hSO560 (by decide)) hg589)
        have k629 := ((k567.gn hg563).grown0 hg589)
        have k630 := ((k568.gn hg563).grown0 hg589)
        exact ⟨(mAt ms i3).t.slots.length - (j + 1), by omega, (j + 1), p5, rfl, (by omega), (by omega), hRw628, k629, (Nat.le_trans (Nat.le_trans (Nat.le_trans hhs hi558.size) hg563.size) hg589.size), rfl, e484, e485, e486, e487, hb590, k629, k630⟩
    ·
     have h631 := of_decide_eq_false h244
     refine wpf_exit ?_
     refine thn_e ?_
     refine thn_e ?_
     refine blk_e ?_
     refine blk_n ?_
     refine thn_n ?_
     refine wpf_region ?_
     refine wpo_move (v := .int .i64 (i3 : Int)) e240 rfl ?_
     refine wpo_add (c := (i3 : Int) + 1) rfl rfl (by omega) (by omega) (by omega) rfl ?_
     refine wpo_assign (v := .int .i64 ((i3 : Int) + 1)) rfl rfl ?_
     refine wpo_nil ?_
     refine thn_n ?_
     exact ⟨ms.length - (i3 + 1), by omega, (i3 + 1), p4, rfl, (by omega), (by omega), hRows, hOt, hhs, rfl, e237, e238, e239, hb234, hOt, k242⟩
   ·
    have h632 := of_decide_eq_false h230
    refine wpf_exit ?_
    refine thn_e ?_
    refine thn_e ?_
    refine blk_e ?_
    refine thn_n ?_
    refine wpf_seq ?_
    refine wpf_seq_region ?_
    refine wpo_move (v := .pointer (some ⟨R, 0, none⟩)) e225 rfl ?_
    refine wpo_call (vs := [.pointer (some ⟨R, 0, none⟩), .int .i64 30]) gf_26 (args_cons rfl (args_cons rfl args_nil)) rfl (pick_c p3 30 (by omega) _ R bs _ _ _ k229 (by omega) (SlLt.low1 hs hb222 hlo) (by first | exact hb | exact fun b h => hb b (List.mem_of_mem_take h)) (by first | omega | (rw [List.length_take]; omega))) ?_
    rintro _ w638 ⟨k633, rfl, hk634, hk635, kR636, hg637⟩
    have hb639 := grown_trans hb222 hg637
    refine wpo_eql (q := decide (k633 = 0)) rfl rfl rfl rfl ?_
    refine wpo_nil ?_
    refine wpf_cond rfl (fun h640 => ?_) (fun h640 => ?_)
    ·
     have h641 := of_decide_eq_true h640
     refine wpf_region ?_
     refine wpo_move (v := .slice (some ⟨Bt, 0, none⟩) ms.length ct) e227 rfl ?_
     refine wpo_move (v := .pointer (some ⟨R, 0, none⟩)) e225 rfl ?_
     refine wpo_move (v := .slice (some ⟨Bt, 0, none⟩) ms.length ct) e227 rfl ?_
     refine wpo_len (by kernel_rfl) rfl rfl ?_
     refine wpo_call (vs := [.pointer (some ⟨R, 0, none⟩), .int .i64 (ms.length : Int)]) gf_26 (args_cons rfl (args_cons rfl args_nil)) rfl (pick_c (p3 + 1) (ms.length : Int) (by omega) _ R bs _ _ _ kR636 (by omega) (SlLt.low1 hs hb639 hlo) (by first | exact hb | exact fun b h => hb b (List.mem_of_mem_take h)) (by first | omega | (rw [List.length_take]; omega))) ?_
     rintro _ w647 ⟨k642, rfl, hk643, hk644, kR645, hg646⟩
     have hb648 := grown_trans hb639 hg646
     refine wpo_move (v := .pointer (some ⟨R, 0, none⟩)) e225 rfl ?_
     refine wpo_call (vs := [.pointer (some ⟨R, 0, none⟩), .int .i64 5]) gf_26 (args_cons rfl (args_cons rfl args_nil)) rfl (pick_c (p3 + 1 + 1) 5 (by omega) _ R bs _ _ _ kR645 (by omega) (SlLt.low1 hs hb648 hlo) (by first | exact hb | exact fun b h => hb b (List.mem_of_mem_take h)) (by first | omega | (rw [List.length_take]; omega))) ?_
     rintro _ w654 ⟨k649, rfl, hk650, hk651, kR652, hg653⟩
     have hb655 := grown_trans hb648 hg653
     refine wpo_add (c := 1 + k649) rfl rfl (by omega) (by omega) (by omega) rfl ?_
     refine wpo_indexAddr (o' := (k642).toNat * 8) es_23 rfl rfl (by omega) (by omega) (by omega) rfl ?_
     refine wpo_fieldAddr (o' := (k642).toNat * 8) fo_31_0 rfl rfl rfl ?_
     have k656 := (((hOt.gn hg637).gn hg646).gn hg653)
     have hRw661 := (RowsD.lt (RowsD.lt (RowsD.lt hRows hg637 (by omega)) hg646 (by omega)) hg653 (by omega))
     have hve660 := (RowsD.at hRw661 (show (k642).toNat < ms.length by omega)).ve
     refine wpo_store1O (g := MTh.cells) (j := 0) (z := (mAt ms ((k642).toNat))) (z' := (⟨⟨1 + k649, ((mAt ms ((k642).toNat)).t.lab), (mAt ms ((k642).toNat)).t.ve, (mAt ms ((k642).toNat)).t.num, (mAt ms ((k642).toNat)).t.slots, (mAt ms ((k642).toNat)).t.queue, (mAt ms ((k642).toNat)).t.to⟩, (mAt ms ((k642).toNat)).sa, (mAt ms ((k642).toNat)).sc, (mAt ms ((k642).toNat)).qa, (mAt ms ((k642).toNat)).qc⟩ : MTh)) (v := .int .i64 (1 + k649)) ot_3 rfl rfl rfl wide_mth k656 (mAt_get (show (k642).toNat < ms.length by omega)) (by omega) rfl rfl ?_
     intro w657 hO658 hg659
     have hb662 := low1 hb655 hg659 (by omega)
     refine wpo_nil ?_
     refine thn_n ?_
     refine wpf_seq_region ?_
     refine wpo_move (v := .slice (some ⟨Bt, 0, none⟩) ms.length ct) e227 rfl ?_
     refine wpo_assign (v := .slice (some ⟨Bt, 0, none⟩) ms.length ct) rfl rfl ?_
     refine wpo_nil ?_
     refine wpf_ret ?_
     have hRw663 := (RowsD.typ hRw661 hg659 k656 (by decide) (by decide))
     obtain ⟨ms9, hc9, hx9, hs9⟩ := RowsD.tab _ (RowsD.setk (i := (k642).toNat) (m' := (⟨⟨1 + k649, ((mAt ms ((k642).toNat)).t.lab), (mAt ms ((k642).toNat)).t.ve, (mAt ms ((k642).toNat)).t.num, (mAt ms ((k642).toNat)).t.slots, (mAt ms ((k642).toNat)).t.queue, (mAt ms ((k642).toNat)).t.to⟩, (mAt ms ((k642).toNat)).sa, (mAt ms ((k642).toNat)).sc, (mAt ms ((k642).toNat)).qa, (mAt ms ((k642).toNat)).qc⟩ : MTh)) hRw663 (by omega) ⟨rfl, rfl, rfl⟩ ⟨rfl, rfl, rfl⟩ rfl)
     have hl9 := congrArg List.length hc9
     simp only [List.length_map, List.length_set] at hl9
     have ho9 := hO658
     rw [← tab_flat hc9] at ho9
     have k664 := (kR652.gn hg659)
     refine ⟨.slice (some ⟨Bt, 0, none⟩) ms.length ct, res1 rfl rfl, Bt, ct, ms9, (p3 + 1 + 1 + 1), ?_, ⟨SlG.own wide_mth ho9 hlBt, hx9⟩, hs9, by omega, by omega, by omega, k664, hb662⟩
     show Value.slice _ _ _ = Value.slice _ _ _
     congr 1; first | omega | (simp only [List.length_set]; omega)
    ·
     have h665 := of_decide_eq_false h640
     refine wpf_skip ?_
     refine thn_n ?_
     refine wpf_seq_region ?_
     refine wpo_move (v := .slice (some ⟨Bt, 0, none⟩) ms.length ct) e227 rfl ?_
     refine wpo_assign (v := .slice (some ⟨Bt, 0, none⟩) ms.length ct) rfl rfl ?_
     refine wpo_nil ?_
     refine wpf_ret ?_
     have hRw666 := (RowsD.lt hRows hg637 (by omega))
     have k667 := (hOt.gn hg637)
     obtain ⟨ms9, hc9, hx9, hs9⟩ := RowsD.tab _ hRw666
     have hl9 := congrArg List.length hc9
     simp only [List.length_map, List.length_set] at hl9
     have ho9 := k667
     rw [← tab_flat hc9] at ho9
     refine ⟨.slice (some ⟨Bt, 0, none⟩) ms.length ct, res1 rfl rfl, Bt, ct, ms9, (p3 + 1), ?_, ⟨SlG.own wide_mth ho9 hlBt, hx9⟩, hs9, by omega, by omega, by omega, kR636, hb639⟩
     show Value.slice _ _ _ = Value.slice _ _ _
     congr 1; first | omega | (simp only [List.length_set]; omega)

theorem l71Fine_c (p : Int) (hp : 0 ≤ p ∧ p ≤ 999999980000) (lo R : Nat) (bs : List Int) (a : Option Addr) (c : Nat) (w : World) (hR : Blk w R 56 #[.slice a bs.length c, .int .i64 p]) (hlo : lo ≤ R) (hs : SlLt lo w a 1 (bs.map bcell)) (hb : ∀ b ∈ bs, 0 ≤ b ∧ b ≤ 255) (hn : bs.length ≤ 1048576) : CallsR Tryd.prog 12 #[.pointer (some ⟨R, 0, none⟩)] w (fun v w' => ∃ (B cap : Nat) (ms : List MTh) (p' : Int), v = .slice (some ⟨B, 0, none⟩) ms.length cap ∧ TabG w.heap.size w' (some ⟨B, 0, none⟩) ms ∧ Small ms ∧ (3 ≤ ms.length ∧ ms.length ≤ 8) ∧ p ≤ p' ∧ p' ≤ p + 4000 ∧ Blk w' R 56 #[.slice a bs.length c, .int .i64 p'] ∧ w.grownBy w' (some R)) := by
 refine calls_of_wpf (n := 24) Tryd.func12 rfl Tryd.ntmps12 rfl ?_
 have hb0 := World.grownBy.refl w (some R)
 have hRlt := hR.lt
 refine wpf_seq_region ?_
 refine wpo_assign (v := .slice none 0 0) rfl rfl ?_
 refine wpo_nil ?_
 refine wpf_seq_region ?_
 refine wpo_move (v := .pointer (some ⟨R, 0, none⟩)) rfl rfl ?_
 refine wpo_call (vs := [.pointer (some ⟨R, 0, none⟩)]) gf_25 (args_cons rfl args_nil) rfl (l71Table_c p (by omega) _ R bs _ _ _ hR (by omega) (SlLt.low1 hs hb0 hlo) (by first | exact hb | exact fun b h => hb b (List.mem_of_mem_take h)) (by first | omega | (rw [List.length_take]; omega))) ?_
 rintro _ w112 ⟨B101, cap102, ms103, p104, rfl, hTG105, hTS106, hTn107, hp108, hp109, kR110, hg111⟩
 have hb113 := grown_trans hb0 hg111
 have hTG114 := TabG.mono hTG105 hb0.size
 have hTl115 := hTS106.len
 refine wpo_assign (v := .slice (some ⟨B101, 0, none⟩) ms103.length cap102) rfl rfl ?_
 refine wpo_nil ?_
 refine wpf_seq ?_
 refine wpf_seq_region ?_
 refine wpo_assign (v := .int .i64 0) rfl rfl ?_
 refine wpo_nil ?_
 refine wpf_block ?_
 refine wpf_loopN (fun mm f' w' => ∃ (i : Nat) (p1 : Int) (B : Nat) (cap : Nat) (ms : List MTh), mm = 4 - i ∧ i ≤ 4 ∧ (p ≤ p1 ∧ p1 ≤ p + 600 + 601 * (i : Int)) ∧ TabG w.heap.size w' (some ⟨B, 0, none⟩) ms ∧ Small ms ∧ (3 ≤ ms.length ∧ ms.length ≤ 8) ∧ f' 3 = .slice (some ⟨B, 0, none⟩) ms.length cap ∧ f' 4 = .int .i64 (i : Int) ∧ f' 0 = .pointer (some ⟨R, 0, none⟩) ∧ f' 2 = .slice none 0 0 ∧ w.grownBy w' (some R) ∧ Blk w' R 56 #[.slice a bs.length c, .int .i64 p1]) (4 - 0) ⟨0, p104, B101, cap102, ms103, rfl, (Nat.zero_le _), (by omega), hTG114, hTS106, hTn107, rfl, rfl, rfl, rfl, hb113, kR110⟩ ?_
 rintro mm f116 w117 ⟨i, p1, B, cap, ms, hm119, hi, hpp, hTG, hTS, hTn, e120, e121, e122, e123, hb118, k124⟩
 have hTl125 := hTS.len
 refine wpf_seq ?_
 refine wpf_seq_region ?_
 refine wpo_move (v := .int .i64 (i : Int)) e121 rfl ?_
 refine wpo_lss (q := decide ((i : Int) < 4)) rfl rfl rfl rfl ?_
 refine wpo_move (v := .bool (decide ((i : Int) < 4))) rfl rfl ?_
 rcases bcases (decide ((i : Int) < 4)) with h137 | h137
 ·
  have h138 := of_decide_eq_true h137
  refine wpo_run rfl rfl rfl h137 ?_
  refine wpo_move (v := .pointer (some ⟨R, 0, none⟩)) e122 rfl ?_
  refine wpo_run rfl rfl rfl h137 ?_
  refine wpo_call (vs := [.pointer (some ⟨R, 0, none⟩), .int .i64 16]) gf_26 (args_cons rfl (args_cons rfl args_nil)) rfl (pick_c p1 16 (by omega) _ R bs _ _ _ k124 (by omega) (SlLt.low1 hs hb118 hlo) (by first | exact hb | exact fun b h => hb b (List.mem_of_mem_take h)) (by first | omega | (rw [List.length_take]; omega))) ?_
  rintro _ w144 ⟨k139, rfl, hk140, hk141, kR142, hg143⟩
  have hb145 := grown_trans hb118 hg143
  refine wpo_run rfl rfl rfl h137 ?_
  refine wpo_gtr (q := decide (0 < k139)) rfl rfl rfl rfl ?_
  refine wpo_pickt (v := .bool (decide (0 < k139))) rfl h137 rfl rfl ?_
  refine wpo_move (v := .bool (decide (0 < k139))) rfl rfl ?_
  rcases bcases (decide (0 < k139)) with h146 | h146
  ·
   have h147 := of_decide_eq_true h146
   refine wpo_run rfl rfl rfl h146 ?_
   refine wpo_move (v := .slice (some ⟨B, 0, none⟩) ms.length cap) e120 rfl ?_
   refine wpo_run rfl rfl rfl h146 ?_
   have hTG148 := (TabG.lt hTG hg143 (by omega))
   refine wpo_call (vs := [.slice (some ⟨B, 0, none⟩) ms.length cap]) gf_15 (args_cons rfl args_nil) rfl (sTableOk_c  _ ms _ _ (TabG.at hTG148) hTl125 (by omega)) ?_
   rintro _ w149 ⟨rfl, hg150⟩
   have hb151 := low0 hb145 hg150
   refine wpo_run rfl rfl rfl h146 ?_
   refine wpo_not (b' := !tableOk (tabT ms)) rfl rfl rfl ?_
   refine wpo_pickt (v := .bool (!tableOk (tabT ms))) rfl h146 rfl rfl ?_
   refine wpo_nil ?_
   refine wpf_cond rfl (fun h152 => ?_) (fun h152 => ?_)
   ·
    have h153 := nt_t h152
    refine wpf_skip ?_
    refine thn_n ?_
    refine wpf_seq ?_
    refine wpf_block ?_
    refine wpf_region ?_
    refine wpo_move (v := .pointer (some ⟨R, 0, none⟩)) e122 rfl ?_
    have k154 := (kR142.grown0 hg150)
    refine wpo_call (vs := [.pointer (some ⟨R, 0, none⟩)]) gf_25 (args_cons rfl args_nil) rfl (l71Table_c (p1 + 1) (by omega) _ R bs _ _ _ k154 (by omega) (SlLt.low1 hs hb151 hlo) (by first | exact hb | exact fun b h => hb b (List.mem_of_mem_take h)) (by first | omega | (rw [List.length_take]; omega))) ?_
    rintro _ w166 ⟨B155, cap156, ms157, p158, rfl, hTG159, hTS160, hTn161, hp162, hp163, kR164, hg165⟩
    have hb167 := grown_trans hb151 hg165
    have hTG168 := TabG.mono hTG159 hb151.size
    have hTl169 := hTS160.len
    refine wpo_assign (v := .slice (some ⟨B155, 0, none⟩) ms157.length cap156) rfl rfl ?_
    refine wpo_nil ?_
    refine blk_n ?_
    refine thn_n ?_
    refine wpf_region ?_
    refine wpo_move (v := .int .i64 (i : Int)) e121 rfl ?_
    refine wpo_add (c := (i : Int) + 1) rfl rfl (by omega) (by omega) (by omega) rfl ?_
    refine wpo_assign (v := .int .i64 ((i : Int) + 1)) rfl rfl ?_
    refine wpo_nil ?_
    refine thn_n ?_
    exact ⟨4 - (i + 1), by omega, (i + 1), p158, B155, cap156, ms157, rfl, (by omega), (by omega), hTG168, hTS160, hTn161, rfl, rfl, e122, e123, hb167, kR164⟩
   ·
    have h170 := nt_f h152
    refine wpf_exit ?_
    refine thn_e ?_
    refine thn_e ?_
    refine blk_e ?_
    refine thn_n ?_
    refine wpf_seq_region ?_
    refine wpo_move (v := .slice (some ⟨B, 0, none⟩) ms.length cap) e120 rfl ?_
    refine wpo_assign (v := .slice (some ⟨B, 0, none⟩) ms.length cap) rfl rfl ?_
    refine wpo_nil ?_
    refine wpf_ret ?_
    have hTG171 := (TabG.low hTG148 hg150)
    have k172 := (kR142.grown0 hg150)
    exact ⟨.slice (some ⟨B, 0, none⟩) ms.length cap, res1 rfl rfl, B, cap, ms, (p1 + 1), rfl, hTG171, hTS, hTn, by omega, by omega, k172, hb151⟩
  ·
   have h173 := of_decide_eq_false h146
   iterate 3 refine wpo_pass rfl rfl rfl h146 rfl ?_
   refine wpo_pickf (v := .bool false) rfl h146 rfl rfl ?_
   refine wpo_nil ?_
   refine wpf_condf rfl rfl ?_
   refine wpf_exit ?_
   refine thn_e ?_
   refine thn_e ?_
   refine blk_e ?_
   refine thn_n ?_
   refine wpf_seq_region ?_
   refine wpo_move (v := .slice (some ⟨B, 0, none⟩) ms.length cap) e120 rfl ?_
   refine wpo_assign (v := .slice (some ⟨B, 0, none⟩) ms.length cap) rfl rfl ?_
   refine wpo_nil ?_
   refine wpf_ret ?_
   have hTG174 := (TabG.lt hTG hg143 (by omega))
   exact ⟨.slice (some ⟨B, 0, none⟩) ms.length cap, res1 rfl rfl, B, cap, ms, (p1 + 1), rfl, hTG174, hTS, hTn, by omega, by omega, kR142, hb145⟩
 ·
  have h175 := of_decide_eq_false h137
  iterate 3 refine wpo_pass rfl rfl rfl h137 rfl ?_
  refine wpo_pickf (v := .bool false) rfl h137 rfl rfl ?_
  refine wpo_move (v := .bool false) rfl rfl ?_
  iterate 3 refine wpo_pass rfl rfl rfl rfl rfl ?_
  refine wpo_pickf (v := .bool false) rfl rfl rfl rfl ?_
  refine wpo_nil ?_
  refine wpf_condf rfl rfl ?_
  refine wpf_exit ?_
  refine thn_e ?_
  refine thn_e ?_
  refine blk_e ?_
  refine thn_n ?_
  refine wpf_seq_region ?_
  refine wpo_move (v := .slice (some ⟨B, 0, none⟩) ms.length cap) e120 rfl ?_
  refine wpo_assign (v := .slice (some ⟨B, 0, none⟩) ms.length cap) rfl rfl ?_
  refine wpo_nil ?_
  refine wpf_ret ?_
  exact ⟨.slice (some ⟨B, 0, none⟩) ms.length cap, res1 rfl rfl, B, cap, ms, p1, rfl, hTG, hTS, hTn, by omega, by omega, k124, hb118⟩

end Go.Proofs.YtemimomfjapgiaaDoor
