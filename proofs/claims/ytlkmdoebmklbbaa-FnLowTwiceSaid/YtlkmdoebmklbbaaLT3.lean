/- Walks, printed by a program of mine (gen.py) out of the functions. -/
import Derived.Test.YtlkmdoebmklbbaaLT2
namespace Go.Proofs.Ytlkmdoebmklbbaa
open Go.RowKit Go.Dw
set_option maxRecDepth 100000
set_option maxHeartbeats 4000000
set_option linter.unusedSimpArgs false
set_option linter.unusedVariables false
theorem l71Table_c (p : Int) (hp : 0 ≤ p ∧ p ≤ 999999990000) (lo R : Nat) (bs : List Int) (a : Option Addr) (c : Nat) (w : World) (hR : Blk w R 121 #[.slice a bs.length c, .int .i64 p]) (hlo : lo ≤ R) (hs : SlLt lo w a 1 (bs.map bcell)) (hb : ∀ b ∈ bs, 0 ≤ b ∧ b ≤ 255) (hn : bs.length ≤ 1048576) : CallsR Try.prog 102 #[.pointer (some ⟨R, 0, none⟩)] w (fun v w' => ∃ (B cap : Nat) (ms : List MTh) (p' : Int), v = .slice (some ⟨B, 0, none⟩) ms.length cap ∧ TabG w.heap.size w' (some ⟨B, 0, none⟩) ms ∧ Small ms ∧ (3 ≤ ms.length ∧ ms.length ≤ 8) ∧ p ≤ p' ∧ p' ≤ p + 600 ∧ Blk w' R 121 #[.slice a bs.length c, .int .i64 p'] ∧ w.grownBy w' (some R)) := by
 refine calls_of_wpf (n := 142) Try.func102 rfl Try.ntmps102 rfl ?_
 have hb0 := World.grownBy.refl w (some R)
 have hRlt := hR.lt
 refine wpf_seq_region ?_
 refine wpo_assign (v := .slice none 0 0) rfl rfl ?_
 refine wpo_nil ?_
 refine wpf_seq_region ?_
 refine wpo_buildSlice (ps := [(0, .int .i64 1), (1, .int .i64 3), (2, .int .i64 3)]) (e := 3) (cs := (([1, 3, 3] : List Int).flatMap icell).toArray) (parts_cons rfl (parts_cons rfl (parts_cons rfl parts_nil))) (fun _ => by kernel_rfl) rfl ?_
 intro B101 w102 hN103
 have hlB101 := hN_ge hN103 hb0
 have lt_R_B101 := hN_gtl hN103 (hR).lt
 have hb104 := low0 hb0 hN103.grw
 refine wpo_assign (v := .slice (some ⟨B101, 0, none⟩) 3 3) rfl rfl ?_
 refine wpo_nil ?_
 refine wpf_seq ?_
 refine wpf_seq_region ?_
 refine wpo_move (v := .pointer (some ⟨R, 0, none⟩)) rfl rfl ?_
 have k105 := (hR.grown0 hN103.grw)
 refine wpo_call (vs := [.pointer (some ⟨R, 0, none⟩), .int .i64 6]) gf_60 (args_cons rfl (args_cons rfl args_nil)) rfl (pick_c p 6 (by omega) _ R bs _ _ _ k105 (by omega) (SlLt.low1 hs hb104 hlo) (by first | exact hb | exact fun b h => hb b (List.mem_of_mem_take h)) (by first | omega | (rw [List.length_take]; omega))) ?_
 rintro _ w111 ⟨k106, rfl, hk107, hk108, kR109, hg110⟩
 have hb112 := grown_trans hb104 hg110
 refine wpo_assign (v := .int .i64 k106) rfl rfl ?_
 refine wpo_nil ?_
 refine wpf_block ?_
 have k113 := (hN103.blk.grown hg110 (some_ne (by omega)))
 refine wpf_loopN (fun mm f' w' => ∃ (n : Int) (p1 : Int) (Bk : Nat) (ck : Nat) (ks : List Int), mm = n.toNat ∧ (0 ≤ n ∧ n ≤ 5) ∧ (p ≤ p1 ∧ p1 ≤ p + 6 - n) ∧ (3 ≤ ks.length ∧ (ks.length : Int) ≤ 8 - n) ∧ (∀ y ∈ ks, 1 ≤ y ∧ y ≤ 5) ∧ Dw.Own w' Bk 3 1 ck ks.length (ks.flatMap icell) ∧ w.heap.size ≤ Bk ∧ R ≠ Bk ∧ f' 3 = .slice (some ⟨Bk, 0, none⟩) ks.length ck ∧ f' 4 = .int .i64 n ∧ f' 0 = .pointer (some ⟨R, 0, none⟩) ∧ f' 2 = .slice none 0 0 ∧ w.grownBy w' (some R) ∧ Blk w' R 121 #[.slice a bs.length c, .int .i64 p1]) (k106.toNat) ⟨k106, (p + 1), B101, 3, ([1, 3, 3] : List Int), rfl, (by omega), (by omega), (by simp only [List.length_nil, List.length_cons]; omega), (by intro y hy; simp at hy; omega), (Own.rows wide_int k113 (by simp)), hlB101, (by omega), rfl, rfl, rfl, rfl, hb112, kR109⟩ ?_
 rintro mm f114 w115 ⟨n, p1, Bk, ck, ks, hm117, hnn, hpp, hkl, hks, hOk, hlBk, hne0, e118, e119, e120, e121, hb116, k122⟩
 refine wpf_seq ?_
 refine wpf_seq_region ?_
 refine wpo_move (v := .int .i64 n) e119 rfl ?_
 refine wpo_gtr (q := decide (0 < n)) rfl rfl rfl rfl ?_
 refine wpo_nil ?_
 refine wpf_cond rfl (fun h123 => ?_) (fun h123 => ?_)
 ·
  have h124 := of_decide_eq_true h123
  refine wpf_skip ?_
  refine thn_n ?_
  refine wpf_seq ?_
  refine wpf_block ?_
  refine wpf_region ?_
  refine wpo_move (v := .slice (some ⟨Bk, 0, none⟩) ks.length ck) e118 rfl ?_
  refine wpo_buildSlice (ps := [(0, .int .i64 1), (1, .int .i64 2), (2, .int .i64 2), (3, .int .i64 3), (4, .int .i64 4), (5, .int .i64 5)]) (e := 3) (cs := (([1, 2, 2, 3, 4, 5] : List Int).flatMap icell).toArray) (parts_cons rfl (parts_cons rfl (parts_cons rfl (parts_cons rfl (parts_cons rfl (parts_cons rfl parts_nil)))))) (fun _ => by kernel_rfl) rfl ?_
  intro B125 w126 hN127
  have hlB125 := hN_ge hN127 hb116
  have lt_R_B125 := hN_gtl hN127 (k122).lt
  have lt_Bk_B125 := hN_gtl hN127 (hOk).lt
  have hb128 := low0 hb116 hN127.grw
  refine wpo_move (v := .pointer (some ⟨R, 0, none⟩)) e120 rfl ?_
  have k129 := (k122.grown0 hN127.grw)
  refine wpo_call (vs := [.pointer (some ⟨R, 0, none⟩), .int .i64 6]) gf_60 (args_cons rfl (args_cons rfl args_nil)) rfl (pick_c p1 6 (by omega) _ R bs _ _ _ k129 (by omega) (SlLt.low1 hs hb128 hlo) (by first | exact hb | exact fun b h => hb b (List.mem_of_mem_take h)) (by first | omega | (rw [List.length_take]; omega))) ?_
  rintro _ w135 ⟨k130, rfl, hk131, hk132, kR133, hg134⟩
  have hb136 := grown_trans hb128 hg134
  refine wpo_indexAddr (o' := (k130).toNat * 1) es_43 rfl rfl (by omega) (by omega) (by omega) rfl ?_
  have k137 := (hN127.blk.grown hg134 (some_ne (by omega)))
  obtain ⟨x138, hx139⟩ := get_lt (l := ([1, 2, 2, 3, 4, 5] : List Int)) (i := (k130).toNat) (show (k130).toNat < 6 by omega)
  have hm140 := List.mem_of_getElem? hx139
  simp only [List.mem_cons, List.not_mem_nil, or_false] at hm140
  refine wpo_load1 (v := .int .i64 x138) ot_3 rfl ((rows_range wide_int k137 hx139) 0 _ rfl) rfl ?_
  refine wpo_buildSlice (ps := [(0, .int .i64 x138)]) (e := 3) (cs := (([x138] : List Int).flatMap icell).toArray) (parts_cons rfl parts_nil) (fun _ => by kernel_rfl) rfl ?_
  intro B141 w142 hN143
  have hlB141 := hN_ge hN143 hb136
  have lt_R_B141 := hN_gtl hN143 (kR133).lt
  have k144 := ((hOk.grown0 hN127.grw).grown hg134 (some_ne (by omega)))
  have lt_Bk_B141 := hN_gtl hN143 (k144).lt
  have lt_B125_B141 := hN_gtl hN143 (k137).lt
  have hb145 := low0 hb136 hN143.grw
  have k146 := (k144.grown0 hN143.grw)
  have k147 := (kR133.grown0 hN143.grw)
  have k148 := (k137.grown0 hN143.grw)
  refine wpo_append (g := icell) (ys := ks) (zs := ([x138] : List Int)) mk_43 rfl wide_int (by omega) onec_int rfl rfl k146 (rows_sl wide_int hN143.blk) (by simp only [List.length_cons, List.length_nil]; omega) (by omega) rfl ?_
  intro B149 cap150 w151 hO152 hg153 hor154
  have hlB149 : w.heap.size ≤ B149 := by rcases hor154 with h | h; (rw [h]; exact hlBk); (rw [h]; exact hb145.size)
  have ne_R_B149 : R ≠ B149 := by have h := (k147).lt; omega
  have ne_B125_B149 : B125 ≠ B149 := by have h := (k148).lt; omega
  have ne_B141_B149 : B141 ≠ B149 := by have h := (hN143.blk).lt; omega
  have hb155 := low1 hb145 hg153 (by omega)
  refine wpo_assign (v := .slice (some ⟨B149, 0, none⟩) ((ks ++ ([x138] : List Int)).length) cap150) rfl rfl ?_
  refine wpo_nil ?_
  refine blk_n ?_
  refine thn_n ?_
  refine wpf_region ?_
  refine wpo_move (v := .int .i64 n) e119 rfl ?_
  refine wpo_sub (c := n - 1) rfl rfl (by omega) (by omega) (by omega) rfl ?_
  refine wpo_assign (v := .int .i64 (n - 1)) rfl rfl ?_
  refine wpo_nil ?_
  refine thn_n ?_
  have k156 := (k147.grown hg153 (some_ne (by omega)))
  exact ⟨(n - 1).toNat, by omega, (n - 1), (p1 + 1), B149, cap150, (ks ++ ([x138] : List Int)), rfl, (by omega), (by omega), (by simp only [List.length_append, List.length_cons, List.length_nil]; omega), (by intro y hy; rcases List.mem_append.1 hy with h | h; exact hks y h; (simp at h; omega)), hO152, hlB149, (by omega), rfl, rfl, e120, e121, hb155, k156⟩
 ·
  have h157 := of_decide_eq_false h123
  refine wpf_exit ?_
  refine thn_e ?_
  refine thn_e ?_
  refine blk_e ?_
  refine thn_n ?_
  refine wpf_seq_region ?_
  refine wpo_buildSlice (ps := []) (e := 45) (cs := (([] : List MTh).flatMap MTh.cells).toArray) parts_nil (fun _ => by kernel_rfl) rfl ?_
  intro B158 w159 hN160
  have hlB158 := hN_ge hN160 hb116
  have lt_R_B158 := hN_gtl hN160 (k122).lt
  have lt_Bk_B158 := hN_gtl hN160 (hOk).lt
  have hb161 := low0 hb116 hN160.grw
  refine wpo_assign (v := .slice (some ⟨B158, 0, none⟩) 0 0) rfl rfl ?_
  refine wpo_nil ?_
  refine wpf_seq ?_
  refine wpf_seq_region ?_
  refine wpo_assign (v := .int .i64 0) rfl rfl ?_
  refine wpo_nil ?_
  refine wpf_block ?_
  have k162 := (hOk.grown0 hN160.grw)
  have k163 := (k122.grown0 hN160.grw)
  refine wpf_loopN (fun mm f' w' => ∃ (i : Nat) (p2 : Int) (Bt : Nat) (ct : Nat) (ms : List MTh), mm = ks.length - i ∧ i ≤ ks.length ∧ (p ≤ p2 ∧ p2 ≤ p + 6 + 12 * (i : Int)) ∧ ms.length = i ∧ RowsD 29 3 w.heap.size w' ms ∧ Dw.Own w' Bt 45 8 ct ms.length (ms.flatMap MTh.cells) ∧ w.heap.size ≤ Bt ∧ R ≠ Bt ∧ Bk ≠ Bt ∧ f' 5 = .slice (some ⟨Bt, 0, none⟩) ms.length ct ∧ f' 6 = .int .i64 (i : Int) ∧ f' 0 = .pointer (some ⟨R, 0, none⟩) ∧ f' 2 = .slice none 0 0 ∧ f' 3 = .slice (some ⟨Bk, 0, none⟩) ks.length ck ∧ w.grownBy w' (some R) ∧ Dw.Own w' Bk 3 1 ck ks.length (ks.flatMap icell) ∧ Blk w' R 121 #[.slice a bs.length c, .int .i64 p2]) (ks.length - 0) ⟨0, p1, B158, 0, ([] : List MTh), rfl, (Nat.zero_le _), (by omega), rfl, RowsD.nil, (Own.rows wide_mth hN160.blk (by simp)), hlB158, (by omega), (by omega), rfl, rfl, e120, e121, e118, hb161, k162, k163⟩ ?_
  rintro mm f164 w165 ⟨i, p2, Bt, ct, ms, hm167, hi, hpp2, hml, hRows, hOt, hlBt, hnf0, hnf1, e168, e169, e170, e171, e172, hb166, k173, k174⟩
  have hkl2 := hkl
  refine wpf_seq ?_
  refine wpf_seq_region ?_
  refine wpo_move (v := .int .i64 (i : Int)) e169 rfl ?_
  refine wpo_move (v := .slice (some ⟨Bk, 0, none⟩) ks.length ck) e172 rfl ?_
  refine wpo_len (by kernel_rfl) rfl rfl ?_
  refine wpo_lss (q := decide ((i : Int) < (ks.length : Int))) rfl rfl rfl rfl ?_
  refine wpo_nil ?_
  refine wpf_cond rfl (fun h175 => ?_) (fun h175 => ?_)
  ·
   have h176 := of_decide_eq_true h175
   refine wpf_skip ?_
   refine thn_n ?_
   refine wpf_seq ?_
   refine wpf_block ?_
   refine wpf_seq_region ?_
   refine wpo_assign (v := .int .i64 0) rfl rfl ?_
   refine wpo_nil ?_
   refine wpf_seq ?_
   refine wpf_seq_region ?_
   refine wpo_move (v := .slice (some ⟨Bk, 0, none⟩) ks.length ck) e172 rfl ?_
   refine wpo_move (v := .int .i64 (i : Int)) e169 rfl ?_
   refine wpo_indexAddr (o' := i * 1) es_43 rfl rfl (by omega) (by omega) (by omega) rfl ?_
   obtain ⟨x177, hx178⟩ := get_lt (l := ks) (i := i) (by omega)
   refine wpo_load1 (v := .int .i64 x177) ot_3 rfl ((Own.range wide_int k173 hx178) 0 _ rfl) rfl ?_
   refine wpo_eql (q := decide (x177 = 5)) rfl rfl rfl rfl ?_
   refine wpo_nil ?_
   refine wpf_mid (fun f' w' => (f' 0 = .pointer (some ⟨R, 0, none⟩) ∧ f' 2 = .slice none 0 0 ∧ f' 3 = .slice (some ⟨Bk, 0, none⟩) ks.length ck ∧ f' 5 = .slice (some ⟨Bt, 0, none⟩) ms.length ct ∧ f' 6 = .int .i64 (i : Int) ∧ f' 7 = .int .i64 (if x177 = 5 then 1 else 0)) ∧ w165 = w') ?_ ?_
   ·
    refine wpf_cond rfl (fun h179 => ?_) (fun h179 => ?_)
    ·
     have h180 := of_decide_eq_true h179
     refine wpf_region ?_
     refine wpo_assign (v := .int .i64 1) rfl rfl ?_
     refine wpo_nil ?_
     refine thn_n ?_
     exact ⟨⟨e170, e171, e172, e168, e169, (congrArg (Value.int .i64) (if_pos (of_decide_eq_true h179)).symm)⟩, rfl⟩
    ·
     have h181 := of_decide_eq_false h179
     refine wpf_skip ?_
     refine thn_n ?_
     exact ⟨⟨e170, e171, e172, e168, e169, (congrArg (Value.int .i64) (if_neg (of_decide_eq_false h179)).symm)⟩, rfl⟩
   ·
    rintro f182 _ ⟨⟨e184, e185, e186, e187, e188, e189⟩, rfl⟩
    refine thn_n ?_
    refine wpf_region ?_
    refine wpo_move (v := .slice (some ⟨Bt, 0, none⟩) ms.length ct) e187 rfl ?_
    refine wpo_move (v := .pointer (some ⟨R, 0, none⟩)) e184 rfl ?_
    refine wpo_move (v := .slice (some ⟨Bk, 0, none⟩) ks.length ck) e186 rfl ?_
    refine wpo_move (v := .int .i64 (i : Int)) e188 rfl ?_
    refine wpo_indexAddr (o' := i * 1) es_43 rfl rfl (by omega) (by omega) (by omega) rfl ?_
    refine wpo_load1 (v := .int .i64 x177) ot_3 rfl ((Own.range wide_int k173 hx178) 0 _ rfl) rfl ?_
    refine wpo_move (v := .int .i64 (if x177 = 5 then 1 else 0)) e189 rfl ?_
    refine wpo_call (vs := [.pointer (some ⟨R, 0, none⟩), .int .i64 x177, .int .i64 (if x177 = 5 then 1 else 0)]) gf_114 (args_cons rfl (args_cons rfl (args_cons rfl args_nil))) rfl (l71Thing_c x177 (if x177 = 5 then 1 else 0) p2 (by omega) _ R bs _ _ _ k174 (by omega) (SlLt.low1 hs hb166 hlo) (by first | exact hb | exact fun b h => hb b (List.mem_of_mem_take h)) (by first | omega | (rw [List.length_take]; omega))) ?_
    rintro _ w197 ⟨m190, p191, rfl, hRD192, hp193, hp194, kR195, hg196⟩
    have hb198 := grown_trans hb166 hg196
    have hRD199 := RowD.mono hRD192 hb166.size
    refine wpo_buildSlice (ps := [(0, .agg #[.int .i64 m190.t.kind, .int .i64 m190.t.lab.s, .int .i64 m190.t.lab.v, .int .i64 m190.t.ve, .int .i64 m190.t.num, .slice m190.sa m190.t.slots.length m190.sc, .slice m190.qa m190.t.queue.length m190.qc, .int .i64 m190.t.to])]) (e := 45) (cs := (([m190] : List MTh).flatMap MTh.cells).toArray) (parts_cons rfl parts_nil) (fun _ => by kernel_rfl) rfl ?_
    intro B200 w201 hN202
    have hlB200 := hN_ge hN202 hb198
    have k203 := (k173.grown hg196 (some_ne (by omega)))
    have lt_Bk_B200 := hN_gtl hN202 (k203).lt
    have lt_R_B200 := hN_gtl hN202 (kR195).lt
    have k204 := (hOt.grown hg196 (some_ne (by omega)))
    have lt_Bt_B200 := hN_gtl hN202 (k204).lt
    have hb205 := low0 hb198 hN202.grw
    have k206 := (k204.grown0 hN202.grw)
    have k207 := (k203.grown0 hN202.grw)
    have k208 := (kR195.grown0 hN202.grw)
    refine wpo_append (g := MTh.cells) (ys := ms) (zs := ([m190] : List MTh)) mk_54 rfl wide_mth (by omega) onec_mth rfl rfl k206 (rows_sl wide_mth hN202.blk) (by simp only [List.length_cons, List.length_nil]; omega) (by omega) rfl ?_
    intro B209 cap210 w211 hO212 hg213 hor214
    have hlB209 : w.heap.size ≤ B209 := by rcases hor214 with h | h; (rw [h]; exact hlBt); (rw [h]; exact hb205.size)
    have ne_Bk_B209 : Bk ≠ B209 := by have h := (k207).lt; omega
    have ne_R_B209 : R ≠ B209 := by have h := (k208).lt; omega
    have ne_B200_B209 : B200 ≠ B209 := by have h := (hN202.blk).lt; omega
    have hb215 := low1 hb205 hg213 (by omega)
    refine wpo_assign (v := .slice (some ⟨B209, 0, none⟩) ((ms ++ ([m190] : List MTh)).length) cap210) rfl rfl ?_
    refine wpo_nil ?_
    refine blk_n ?_
    refine thn_n ?_
    refine wpf_region ?_
    refine wpo_move (v := .int .i64 (i : Int)) e188 rfl ?_
    refine wpo_add (c := (i : Int) + 1) rfl rfl (by omega) (by omega) (by omega) rfl ?_
    refine wpo_assign (v := .int .i64 ((i : Int) + 1)) rfl rfl ?_
    refine wpo_nil ?_
    refine thn_n ?_
    have hRw216 := (RowsD.typ (RowsD.low (RowsD.lt hRows hg196 (by omega)) hN202.grw) hg213 k206 (by decide) (by decide))
    have k217 := (k207.grown hg213 (some_ne (by omega)))
    have k218 := (k208.grown hg213 (some_ne (by omega)))
    exact ⟨ks.length - (i + 1), by omega, (i + 1), p191, B209, cap210, (ms ++ ([m190] : List MTh)), rfl, (by omega), (by omega), (by rw [List.length_append, hml]; rfl), (RowsD.snoc hRw216 (RowD.typ (RowD.low hRD199 hN202.grw) hg213 k206 (by decide) (by decide))), hO212, hlB209, (by omega), (by omega), rfl, rfl, e184, e185, e186, hb215, k217, k218⟩
  ·
   have h219 := of_decide_eq_false h175
   refine wpf_exit ?_
   refine thn_e ?_
   refine thn_e ?_
   refine blk_e ?_
   refine thn_n ?_
   refine wpf_seq ?_
   refine wpf_seq_region ?_
   refine wpo_assign (v := .int .i64 0) rfl rfl ?_
   refine wpo_nil ?_
   refine wpf_block ?_
   obtain ⟨hi, hhi⟩ : ∃ n, n = w165.heap.size := ⟨_, rfl⟩
   have hH := RowsD.hi hRows
   rw [← hhi] at hH
   have hbt := (hOt).lt
   refine wpf_loopN (fun mm f' w' => ∃ (i3 : Nat) (p3 : Int), mm = ms.length - i3 ∧ i3 ≤ ms.length ∧ (p ≤ p3 ∧ p3 ≤ p + 102 + 56 * (i3 : Int)) ∧ RowsD 29 3 w.heap.size w' ms ∧ Dw.Own w' Bt 45 8 ct ms.length (ms.flatMap MTh.cells) ∧ hi ≤ w'.heap.size ∧ f' 8 = .int .i64 (i3 : Int) ∧ f' 0 = .pointer (some ⟨R, 0, none⟩) ∧ f' 2 = .slice none 0 0 ∧ f' 5 = .slice (some ⟨Bt, 0, none⟩) ms.length ct ∧ w.grownBy w' (some R) ∧ Dw.Own w' Bt 45 8 ct ms.length (ms.flatMap MTh.cells) ∧ Blk w' R 121 #[.slice a bs.length c, .int .i64 p3]) (ms.length - 0) ⟨0, p2, rfl, (Nat.zero_le _), (by omega), hRows, hOt, (Nat.le_of_eq hhi), rfl, e170, e171, e168, hb166, hOt, k174⟩ ?_
   rintro mm f220 w221 ⟨i3, p3, hm223, hi3, hpp3, hRows, hOt, hhs, e224, e225, e226, e227, hb222, k228, k229⟩
   refine wpf_seq ?_
   refine wpf_seq_region ?_
   refine wpo_move (v := .int .i64 (i3 : Int)) e224 rfl ?_
   refine wpo_move (v := .slice (some ⟨Bt, 0, none⟩) ms.length ct) e227 rfl ?_
   refine wpo_len (by kernel_rfl) rfl rfl ?_
   refine wpo_lss (q := decide ((i3 : Int) < (ms.length : Int))) rfl rfl rfl rfl ?_
   refine wpo_nil ?_
   refine wpf_cond rfl (fun h230 => ?_) (fun h230 => ?_)
   ·
    have h231 := of_decide_eq_true h230
    refine wpf_skip ?_
    refine thn_n ?_
    refine wpf_seq ?_
    refine wpf_block ?_
    refine wpf_seq_region ?_
    refine wpo_assign (v := .int .i64 0) rfl rfl ?_
    refine wpo_nil ?_
    refine wpf_block ?_
    refine wpf_loopN (fun mm f' w' => ∃ (j : Nat) (p4 : Int), mm = (mAt ms i3).t.slots.length - j ∧ j ≤ (mAt ms i3).t.slots.length ∧ (p3 ≤ p4 ∧ p4 ≤ p3 + 14 * (j : Int)) ∧ RowsD 29 3 w.heap.size w' ms ∧ Dw.Own w' Bt 45 8 ct ms.length (ms.flatMap MTh.cells) ∧ hi ≤ w'.heap.size ∧ f' 9 = .int .i64 (j : Int) ∧ f' 0 = .pointer (some ⟨R, 0, none⟩) ∧ f' 2 = .slice none 0 0 ∧ f' 5 = .slice (some ⟨Bt, 0, none⟩) ms.length ct ∧ f' 8 = .int .i64 (i3 : Int) ∧ w.grownBy w' (some R) ∧ Dw.Own w' Bt 45 8 ct ms.length (ms.flatMap MTh.cells) ∧ Blk w' R 121 #[.slice a bs.length c, .int .i64 p4]) ((mAt ms i3).t.slots.length - 0) ⟨0, p3, rfl, (Nat.zero_le _), (by omega), hRows, hOt, hhs, rfl, e225, e226, e227, e224, hb222, hOt, k229⟩ ?_
    rintro mm f232 w233 ⟨j, p4, hm235, hj, hpp4, hRows, hOt, hhs, e236, e237, e238, e239, e240, hb234, k241, k242⟩
    have hsl4 := (RowsD.at hRows (show i3 < ms.length by omega)).sl
    refine wpf_seq ?_
    refine wpf_seq_region ?_
    refine wpo_move (v := .int .i64 (j : Int)) e236 rfl ?_
    refine wpo_move (v := .slice (some ⟨Bt, 0, none⟩) ms.length ct) e239 rfl ?_
    refine wpo_move (v := .int .i64 (i3 : Int)) e240 rfl ?_
    refine wpo_indexAddr (o' := i3 * 8) es_54 rfl rfl (by omega) (by omega) (by omega) rfl ?_
    refine wpo_fieldAddr (o' := i3 * 8 + 5) fo_45_4 rfl rfl rfl ?_
    have hve243 := (RowsD.at hRows (show i3 < ms.length by omega)).ve
    refine wpo_load1 (v := .slice ((mAt ms i3).sa) ((mAt ms i3).t.slots.length) ((mAt ms i3).sc)) ot_27 rfl ((Own.range wide_mth hOt (mAt_get (show i3 < ms.length by omega))) 5 _ rfl) rfl ?_
    refine wpo_len (by kernel_rfl) rfl rfl ?_
    refine wpo_lss (q := decide ((j : Int) < ((mAt ms i3).t.slots.length : Int))) rfl rfl rfl rfl ?_
    refine wpo_nil ?_
    refine wpf_cond rfl (fun h244 => ?_) (fun h244 => ?_)
    ·
     have h245 := of_decide_eq_true h244
     refine wpf_skip ?_
     refine thn_n ?_
     refine wpf_seq ?_
     refine wpf_block ?_
     refine wpf_seq_region ?_
     refine wpo_move (v := .pointer (some ⟨R, 0, none⟩)) e237 rfl ?_
     refine wpo_call (vs := [.pointer (some ⟨R, 0, none⟩)]) gf_61 (args_cons rfl args_nil) rfl (l71Right_c p4 (by omega) _ R bs _ _ _ k242 (by omega) (SlLt.low1 hs hb234 hlo) (by first | exact hb | exact fun b h => hb b (List.mem_of_mem_take h)) (by first | omega | (rw [List.length_take]; omega))) ?_
     rintro _ w256 ⟨r246, p247, rfl, hr248, hr249, hr250, hr251, hp252, hp253, kR254, hg255⟩
     have hb257 := grown_trans hb234 hg255
     refine wpo_alloc (cs := #[.int .i64 0, .int .i64 0, .bool false, .bool false, .bool false]) zt_29 rfl rfl ?_
     intro B258 w259 hN260
     have hlB258 := hN_ge hN260 hb257
     have hhiB258 : hi ≤ B258 := Nat.le_trans (Nat.le_trans hhs hg255.size) (Nat.le_of_eq hN260.eq.symm)
     have k261 := (hOt.grown hg255 (some_ne (by omega)))
     have lt_Bt_B258 := hN_gtl hN260 (k261).lt
     have lt_R_B258 := hN_gtl hN260 (kR254).lt
     have hb262 := low0 hb257 hN260.grw
     refine wpo_storen (vs := [.int .i64 r246.th, .int .i64 r246.ve, .bool r246.rd, .bool r246.wr, .bool r246.wk]) (cs' := #[.int .i64 r246.th, .int .i64 r246.ve, .bool r246.rd, .bool r246.wr, .bool r246.wk]) rt_29 rfl rfl rfl (by simp [Value.oneCell']) hN260.blk (Nat.le_of_ble_eq_true rfl) rfl ?_
     intro w263 hS264
     have hb265 := low1 hb262 hS264.grw (by omega)
     refine wpo_nil ?_
     refine wpf_seq_mid (fun f' w' => ∃ (p5 : Int) (r5 : Rt), (p4 ≤ p5 ∧ p5 ≤ p4 + 12) ∧ RB r5 ∧ RowsD 29 3 w.heap.size w' ms ∧ Dw.Own w' Bt 45 8 ct ms.length (ms.flatMap MTh.cells) ∧ hi ≤ w'.heap.size ∧ f' 0 = .pointer (some ⟨R, 0, none⟩) ∧ f' 2 = .slice none 0 0 ∧ f' 5 = .slice (some ⟨Bt, 0, none⟩) ms.length ct ∧ f' 8 = .int .i64 (i3 : Int) ∧ f' 9 = .int .i64 (j : Int) ∧ f' 10 = .pointer (some ⟨B258, 0, none⟩) ∧ w.grownBy w' (some R) ∧ Blk w' B258 29 #[.int .i64 r5.th, .int .i64 r5.ve, .bool r5.rd, .bool r5.wr, .bool r5.wk] ∧ Dw.Own w' Bt 45 8 ct ms.length (ms.flatMap MTh.cells) ∧ Blk w' R 121 #[.slice a bs.length c, .int .i64 p5]) ?_ ?_
     ·
      refine wpf_seq_region ?_
      refine wpo_fieldAddr (o' := 0) fo_29_0 rfl rfl rfl ?_
      refine wpo_load1 (v := .int .i64 r246.th) ot_3 rfl (hS264.blk.cell rfl) rfl ?_
      refine wpo_gtr (q := decide (0 < r246.th)) rfl rfl rfl rfl ?_
      refine wpo_move (v := .bool (decide (0 < r246.th))) rfl rfl ?_
      rcases bcases (decide (0 < r246.th)) with h274 | h274
      ·
       have h275 := of_decide_eq_true h274
       refine wpo_run rfl rfl rfl h274 ?_
       refine wpo_move (v := .pointer (some ⟨R, 0, none⟩)) e237 rfl ?_
       refine wpo_run rfl rfl rfl h274 ?_
       have k276 := ((kR254.grown0 hN260.grw).grown hS264.grw (some_ne (by omega)))
       refine wpo_call (vs := [.pointer (some ⟨R, 0, none⟩), .int .i64 40]) gf_60 (args_cons rfl (args_cons rfl args_nil)) rfl (pick_c p247 40 (by omega) _ R bs _ _ _ k276 (by omega) (SlLt.low1 hs hb265 hlo) (by first | exact hb | exact fun b h => hb b (List.mem_of_mem_take h)) (by first | omega | (rw [List.length_take]; omega))) ?_
       rintro _ w282 ⟨k277, rfl, hk278, hk279, kR280, hg281⟩
       have hb283 := grown_trans hb265 hg281
       refine wpo_run rfl rfl rfl h274 ?_
       refine wpo_gtr (q := decide (0 < k277)) rfl rfl rfl rfl ?_
       refine wpo_pickt (v := .bool (decide (0 < k277))) rfl h274 rfl rfl ?_
       refine wpo_nil ?_
       refine wpf_cond rfl (fun h284 => ?_) (fun h284 => ?_)
       ·
        have h285 := of_decide_eq_true h284
        refine wpf_seq ?_
        refine wpf_drawI (m := 7) [[], [0], [], [2], [0, 1, 2, 3], [], [5], [0, 1, 2, 3, 4, 5, 6], [0, 1, 2, 3, 4, 5, 6, 7], [0, 1, 2, 3, 4, 5, 6, 7, 8], [0, 1, 2, 3, 4, 5, 6, 7, 8, 9]] (fun S F w' => ∃ (k325 : Int), w282.grownBy w' (some R) ∧ F 0 = .pointer (some ⟨R, 0, none⟩) ∧ F 2 = .slice none 0 0 ∧ F 5 = .slice (some ⟨Bt, 0, none⟩) ms.length ct ∧ F 8 = .int .i64 (i3 : Int) ∧ F 9 = .int .i64 (j : Int) ∧ F 10 = .pointer (some ⟨B258, 0, none⟩) ∧ (S 3 = false → Blk w' R 121 #[.slice a bs.length c, .int .i64 (p247 + 1)]) ∧ (S 0 = true → F 74 = .pointer (some ⟨B258, 0, none⟩)) ∧ (S 1 = true → F 75 = .int .i64 r246.th) ∧ (S 2 = true → F 76 = .pointer (some ⟨R, 0, none⟩)) ∧ (S 3 = true → F 77 = .int .i64 k325 ∧ 0 ≤ k325 ∧ (k325 < 8 ∨ k325 = 0) ∧ Blk w' R 121 #[.slice a bs.length c, .int .i64 (p247 + 1 + 1)]) ∧ (S 4 = true → F 78 = .int .i64 (r246.th + k325)) ∧ (S 5 = true → F 79 = .slice (some ⟨Bt, 0, none⟩) ms.length ct) ∧ (S 6 = true → F 80 = .int .i64 (ms.length : Int))) mixed_ (by kernel_rfl) ⟨0, grown_drew _, e237, e238, e239, e240, e236, rfl, fun _ => (kR280).grown0 (grown_drew _), fun h => not_begun h, fun h => not_begun h, fun h => not_begun h, fun h => not_begun h, fun h => not_begun h, fun h => not_begun h, fun h => not_begun h⟩ ?_ ?_
        ·
         refine preL_cons (fun S F w332 hS hbef hcl hI => ?_) ?_
         ·
          obtain ⟨k325, hi333, e334, e335, e336, e337, e338, e339, c_old_R, c_0, c_1, c_2, c_3, c_4, c_5, c_6⟩ := hI
          have hb340 := grown_trans hb283 hi333
          refine wpo_fieldAddr (o' := 0) fo_29_0 e339 rfl rfl ?_
          exact wpo_nil ⟨k325, hi333, e334, e335, e336, e337, e338, e339, fun h => c_old_R h, fun _ => rfl, fun h => undone 1 hS hcl rfl h, c_2, c_3, fun h => undone 4 hS hcl rfl h, c_5, c_6⟩
         refine preL_cons (fun S F w341 hS hbef hcl hI => ?_) ?_
         ·
          obtain ⟨k325, hi342, e343, e344, e345, e346, e347, e348, c_old_R, c_0, c_1, c_2, c_3, c_4, c_5, c_6⟩ := hI
          have hb349 := grown_trans hb283 hi342
          obtain e350 := c_0 (ready_of 0 hbef rfl)
          have k351 := ((hS264.blk.grown hg281 (some_ne (by omega))).grown hi342 (some_ne (by omega)))
          refine wpo_load1 (v := .int .i64 r246.th) ot_3 e350 (k351.cell rfl) rfl ?_
          exact wpo_nil ⟨k325, hi342, e343, e344, e345, e346, e347, e348, fun h => c_old_R h, c_0, fun _ => rfl, c_2, c_3, fun h => undone 4 hS hcl rfl h, c_5, c_6⟩
         refine preL_cons (fun S F w352 hS hbef hcl hI => ?_) ?_
         ·
          obtain ⟨k325, hi353, e354, e355, e356, e357, e358, e359, c_old_R, c_0, c_1, c_2, c_3, c_4, c_5, c_6⟩ := hI
          have hb360 := grown_trans hb283 hi353
          refine wpo_move (v := .pointer (some ⟨R, 0, none⟩)) e354 rfl ?_
          exact wpo_nil ⟨k325, hi353, e354, e355, e356, e357, e358, e359, fun h => c_old_R h, c_0, c_1, fun _ => rfl, fun h => undone 3 hS hcl rfl h, fun h => undone 4 hS hcl rfl h, c_5, c_6⟩
         refine preL_cons (fun S F w361 hS hbef hcl hI => ?_) ?_
         ·
          obtain ⟨k325, hi362, e363, e364, e365, e366, e367, e368, c_old_R, c_0, c_1, c_2, c_3, c_4, c_5, c_6⟩ := hI
          have hb369 := grown_trans hb283 hi362
          obtain e370 := c_2 (ready_of 2 hbef rfl)
          refine wpo_call (vs := [.pointer (some ⟨R, 0, none⟩), .int .i64 8]) gf_60 (args_cons e370 (args_cons rfl args_nil)) rfl (pick_c (p247 + 1) 8 (by omega) _ R bs _ _ _ (c_old_R hS) (by omega) (SlLt.low1 hs hb369 hlo) (by first | exact hb | exact fun b h => hb b (List.mem_of_mem_take h)) (by first | omega | (rw [List.length_take]; omega))) ?_
          rintro _ w376 ⟨k371, rfl, hk372, hk373, kR374, hg375⟩
          have hb377 := grown_trans hb369 hg375
          exact wpo_nil ⟨k371, (grown_trans hi362 hg375), e363, e364, e365, e366, e367, e368, fun h => not_open h, c_0, c_1, c_2, fun _ => ⟨rfl, hk372, hk373, kR374⟩, fun h => undone 4 hS hcl rfl h, c_5, c_6⟩
         refine preL_cons (fun S F w378 hS hbef hcl hI => ?_) ?_
         ·
          obtain ⟨k325, hi379, e380, e381, e382, e383, e384, e385, c_old_R, c_0, c_1, c_2, c_3, c_4, c_5, c_6⟩ := hI
          have hb386 := grown_trans hb283 hi379
          obtain e387 := c_0 (ready_of 0 hbef rfl)
          obtain e388 := c_1 (ready_of 1 hbef rfl)
          obtain e389 := c_2 (ready_of 2 hbef rfl)
          obtain ⟨e390, hk326, hk327, ks3_R⟩ := c_3 (ready_of 3 hbef rfl)
          refine wpo_add (c := r246.th + k325) e388 e390 (by omega) (by omega) (by omega) rfl ?_
          exact wpo_nil ⟨k325, hi379, e380, e381, e382, e383, e384, e385, fun hn => not_open ((ready_of 3 hbef rfl).symm.trans hn), c_0, c_1, c_2, c_3, fun _ => rfl, c_5, c_6⟩
         refine preL_cons (fun S F w391 hS hbef hcl hI => ?_) ?_
         ·
          obtain ⟨k325, hi392, e393, e394, e395, e396, e397, e398, c_old_R, c_0, c_1, c_2, c_3, c_4, c_5, c_6⟩ := hI
          have hb399 := grown_trans hb283 hi392
          refine wpo_move (v := .slice (some ⟨Bt, 0, none⟩) ms.length ct) e395 rfl ?_
          exact wpo_nil ⟨k325, hi392, e393, e394, e395, e396, e397, e398, fun h => c_old_R h, c_0, c_1, c_2, c_3, c_4, fun _ => rfl, fun h => undone 6 hS hcl rfl h⟩
         refine preL_cons (fun S F w400 hS hbef hcl hI => ?_) ?_
         ·
          obtain ⟨k325, hi401, e402, e403, e404, e405, e406, e407, c_old_R, c_0, c_1, c_2, c_3, c_4, c_5, c_6⟩ := hI
          have hb408 := grown_trans hb283 hi401
          obtain e409 := c_5 (ready_of 5 hbef rfl)
          refine wpo_len (by kernel_rfl) e409 rfl ?_
          exact wpo_nil ⟨k325, hi401, e402, e403, e404, e405, e406, e407, fun h => c_old_R h, c_0, c_1, c_2, c_3, c_4, c_5, fun _ => rfl⟩
         exact preL_nil
        ·
         intro S F w410 hall hI
         obtain ⟨k325, hi411, e412, e413, e414, e415, e416, e417, c_old_R, c_0, c_1, c_2, c_3, c_4, c_5, c_6⟩ := hI
         have hb418 := grown_trans hb283 hi411
         obtain e419 := c_0 (hall 0 (by decide))
         obtain e420 := c_1 (hall 1 (by decide))
         obtain e421 := c_2 (hall 2 (by decide))
         obtain ⟨e422, hk326, hk327, ks3_R⟩ := c_3 (hall 3 (by decide))
         obtain e423 := c_4 (hall 4 (by decide))
         obtain e424 := c_5 (hall 5 (by decide))
         obtain e425 := c_6 (hall 6 (by decide))
         have hr426 := Int.emod_nonneg (r246.th + k325) (show (ms.length : Int) ≠ 0 by omega)
         have hr427 := Int.emod_lt_of_pos (r246.th + k325) (show 0 < (ms.length : Int) by omega)
         refine wpo_rem (c := (r246.th + k325) % (ms.length : Int)) e423 e425 (by omega) (by omega) (by omega) rfl rfl ?_
         refine wpo_add (c := 1 + ((r246.th + k325) % (ms.length : Int))) rfl rfl (by omega) (by omega) (by omega) rfl ?_
         refine wpo_fieldAddr (o' := 0) fo_29_0 e417 rfl rfl ?_
         have k428 := ((hS264.blk.grown hg281 (some_ne (by omega))).grown hi411 (some_ne (by omega)))
         refine wpo_store1 (v := .int .i64 (1 + ((r246.th + k325) % (ms.length : Int)))) (cs' := #[.int .i64 (1 + ((r246.th + k325) % (ms.length : Int))), .int .i64 r246.ve, .bool r246.rd, .bool r246.wr, .bool r246.wk]) ot_3 rfl rfl rfl k428 (Nat.le_of_ble_eq_true rfl) rfl ?_
         intro w429 hS430
         have hb431 := low1 hb418 hS430.grw (by omega)
         refine wpo_nil ?_
         refine thn_n ?_
         refine wpf_seq_region ?_
         refine wpo_move (v := .slice (some ⟨Bt, 0, none⟩) ms.length ct) e414 rfl ?_
         refine wpo_fieldAddr (o' := 0) fo_29_0 e417 rfl rfl ?_
         refine wpo_load1 (v := .int .i64 (1 + ((r246.th + k325) % (ms.length : Int)))) ot_3 rfl (hS430.blk.cell rfl) rfl ?_
         refine wpo_sub (c := (1 + ((r246.th + k325) % (ms.length : Int))) - 1) rfl rfl (by omega) (by omega) (by omega) rfl ?_
         refine wpo_indexAddr (o' := ((1 + ((r246.th + k325) % (ms.length : Int))) - 1).toNat * 8) es_54 rfl rfl (by omega) (by omega) (by omega) rfl ?_
         refine wpo_fieldAddr (o' := ((1 + ((r246.th + k325) % (ms.length : Int))) - 1).toNat * 8 + 3) fo_45_2 rfl rfl rfl ?_
         have k432 := (((((k261.grown0 hN260.grw).grown hS264.grw (some_ne (by omega))).grown hg281 (some_ne (by omega))).grown hi411 (some_ne (by omega))).grown hS430.grw (some_ne (by omega)))
         have hRw434 := (RowsD.ge (RowsD.lt (RowsD.lt (RowsD.ge (RowsD.low (RowsD.lt hRows hg255 (by omega)) hN260.grw) hS264.grw hH (by omega)) hg281 (by omega)) hi411 (by omega)) hS430.grw hH (by omega))
         have hve433 := (RowsD.at hRw434 (show ((1 + ((r246.th + k325) % (ms.length : Int))) - 1).toNat < ms.length by omega)).ve
         refine wpo_load1 (v := .int .i64 ((mAt ms (((1 + ((r246.th + k325) % (ms.length : Int))) - 1).toNat)).t.ve)) ot_3 rfl ((Own.range wide_mth k432 (mAt_get (show ((1 + ((r246.th + k325) % (ms.length : Int))) - 1).toNat < ms.length by omega))) 3 _ rfl) rfl ?_
         refine wpo_fieldAddr (o' := 1) fo_29_1 e417 rfl rfl ?_
         refine wpo_store1 (v := .int .i64 ((mAt ms (((1 + ((r246.th + k325) % (ms.length : Int))) - 1).toNat)).t.ve)) (cs' := #[.int .i64 (1 + ((r246.th + k325) % (ms.length : Int))), .int .i64 ((mAt ms (((1 + ((r246.th + k325) % (ms.length : Int))) - 1).toNat)).t.ve), .bool r246.rd, .bool r246.wr, .bool r246.wk]) ot_3 rfl rfl rfl hS430.blk (Nat.le_of_ble_eq_true rfl) rfl ?_
         intro w435 hS436
         have hb437 := low1 hb431 hS436.grw (by omega)
         refine wpo_nil ?_
         refine wpf_seq_region ?_
         refine wpo_fieldAddr (o' := 1) fo_29_1 e417 rfl rfl ?_
         refine wpo_load1 (v := .int .i64 ((mAt ms (((1 + ((r246.th + k325) % (ms.length : Int))) - 1).toNat)).t.ve)) ot_3 rfl (hS436.blk.cell rfl) rfl ?_
         refine wpo_gtr (q := decide (0 < (mAt ms (((1 + ((r246.th + k325) % (ms.length : Int))) - 1).toNat)).t.ve)) rfl rfl rfl rfl ?_
         refine wpo_move (v := .bool (decide (0 < (mAt ms (((1 + ((r246.th + k325) % (ms.length : Int))) - 1).toNat)).t.ve))) rfl rfl ?_
         rcases bcases (decide (0 < (mAt ms (((1 + ((r246.th + k325) % (ms.length : Int))) - 1).toNat)).t.ve)) with h446 | h446
         ·
          have h447 := of_decide_eq_true h446
          refine wpo_run rfl rfl rfl h446 ?_
          refine wpo_move (v := .pointer (some ⟨R, 0, none⟩)) e412 rfl ?_
          refine wpo_run rfl rfl rfl h446 ?_
          have k448 := ((ks3_R.grown hS430.grw (some_ne (by omega))).grown hS436.grw (some_ne (by omega)))
          refine wpo_call (vs := [.pointer (some ⟨R, 0, none⟩), .int .i64 5]) gf_60 (args_cons rfl (args_cons rfl args_nil)) rfl (pick_c (p247 + 1 + 1) 5 (by omega) _ R bs _ _ _ k448 (by omega) (SlLt.low1 hs hb437 hlo) (by first | exact hb | exact fun b h => hb b (List.mem_of_mem_take h)) (by first | omega | (rw [List.length_take]; omega))) ?_
          rintro _ w454 ⟨k449, rfl, hk450, hk451, kR452, hg453⟩
          have hb455 := grown_trans hb437 hg453
          refine wpo_run rfl rfl rfl h446 ?_
          refine wpo_eql (q := decide (k449 = 0)) rfl rfl rfl rfl ?_
          refine wpo_pickt (v := .bool (decide (k449 = 0))) rfl h446 rfl rfl ?_
          refine wpo_nil ?_
          refine wpf_cond rfl (fun h456 => ?_) (fun h456 => ?_)
          ·
           have h457 := of_decide_eq_true h456
           refine wpf_region ?_
           refine wpo_fieldAddr (o' := 1) fo_29_1 e417 rfl rfl ?_
           have k458 := (hS436.blk.grown hg453 (some_ne (by omega)))
           refine wpo_load1 (v := .int .i64 ((mAt ms (((1 + ((r246.th + k325) % (ms.length : Int))) - 1).toNat)).t.ve)) ot_3 rfl (k458.cell rfl) rfl ?_
           refine wpo_sub (c := ((mAt ms (((1 + ((r246.th + k325) % (ms.length : Int))) - 1).toNat)).t.ve) - 1) rfl rfl (by omega) (by omega) (by omega) rfl ?_
           refine wpo_fieldAddr (o' := 1) fo_29_1 e417 rfl rfl ?_
           refine wpo_store1 (v := .int .i64 (((mAt ms (((1 + ((r246.th + k325) % (ms.length : Int))) - 1).toNat)).t.ve) - 1)) (cs' := #[.int .i64 (1 + ((r246.th + k325) % (ms.length : Int))), .int .i64 (((mAt ms (((1 + ((r246.th + k325) % (ms.length : Int))) - 1).toNat)).t.ve) - 1), .bool r246.rd, .bool r246.wr, .bool r246.wk]) ot_3 rfl rfl rfl k458 (Nat.le_of_ble_eq_true rfl) rfl ?_
           intro w459 hS460
           have hb461 := low1 hb455 hS460.grw (by omega)
           refine wpo_nil ?_
           refine thn_n ?_
           have hRw462 := (RowsD.ge (RowsD.lt (RowsD.ge hRw434 hS436.grw hH (by omega)) hg453 (by omega)) hS460.grw hH (by omega))
           have k463 := (((k432.grown hS436.grw (some_ne (by omega))).grown hg453 (some_ne (by omega))).grown hS460.grw (some_ne (by omega)))
           have k464 := (kR452.grown hS460.grw (some_ne (by omega)))
           exact ⟨(p247 + 1 + 1 + 1), (⟨1 + ((r246.th + k325) % (ms.length : Int)), ((mAt ms (((1 + ((r246.th + k325) % (ms.length : Int))) - 1).toNat)).t.ve) - 1, r246.rd, r246.wr, r246.wk⟩ : Rt), (by omega), ⟨show (-1 : Int) ≤ 1 + ((r246.th + k325) % (ms.length : Int)) by omega, show 1 + ((r246.th + k325) % (ms.length : Int)) ≤ (9 : Int) by omega, show (-1 : Int) ≤ ((mAt ms (((1 + ((r246.th + k325) % (ms.length : Int))) - 1).toNat)).t.ve) - 1 by omega, show ((mAt ms (((1 + ((r246.th + k325) % (ms.length : Int))) - 1).toNat)).t.ve) - 1 ≤ (9 : Int) by omega⟩, hRw462, k463, (Nat.le_trans (Nat.le_trans (Nat.le_trans (Nat.le_trans (Nat.le_trans (Nat.le_trans (Nat.le_trans (Nat.le_trans (Nat.le_trans hhs hg255.size) hN260.grw.size) hS264.grw.size) hg281.size) hi411.size) hS430.grw.size) hS436.grw.size) hg453.size) hS460.grw.size), e412, e413, e414, e415, e416, e417, hb461, hS460.blk, k463, k464⟩
          ·
           have h465 := of_decide_eq_false h456
           refine wpf_skip ?_
           refine thn_n ?_
           have hRw466 := (RowsD.lt (RowsD.ge hRw434 hS436.grw hH (by omega)) hg453 (by omega))
           have k467 := ((k432.grown hS436.grw (some_ne (by omega))).grown hg453 (some_ne (by omega)))
           have k468 := (hS436.blk.grown hg453 (some_ne (by omega)))
           exact ⟨(p247 + 1 + 1 + 1), (⟨1 + ((r246.th + k325) % (ms.length : Int)), (mAt ms (((1 + ((r246.th + k325) % (ms.length : Int))) - 1).toNat)).t.ve, r246.rd, r246.wr, r246.wk⟩ : Rt), (by omega), ⟨show (-1 : Int) ≤ 1 + ((r246.th + k325) % (ms.length : Int)) by omega, show 1 + ((r246.th + k325) % (ms.length : Int)) ≤ (9 : Int) by omega, show (-1 : Int) ≤ (mAt ms (((1 + ((r246.th + k325) % (ms.length : Int))) - 1).toNat)).t.ve by omega, show (mAt ms (((1 + ((r246.th + k325) % (ms.length : Int))) - 1).toNat)).t.ve ≤ (9 : Int) by omega⟩, hRw466, k467, (Nat.le_trans (Nat.le_trans (Nat.le_trans (Nat.le_trans (Nat.le_trans (Nat.le_trans (Nat.le_trans (Nat.le_trans hhs hg255.size) hN260.grw.size) hS264.grw.size) hg281.size) hi411.size) hS430.grw.size) hS436.grw.size) hg453.size), e412, e413, e414, e415, e416, e417, hb455, k468, k467, kR452⟩
         ·
          have h469 := of_decide_eq_false h446
          iterate 3 refine wpo_pass rfl rfl rfl h446 rfl ?_
          refine wpo_pickf (v := .bool false) rfl h446 rfl rfl ?_
          refine wpo_nil ?_
          refine wpf_condf rfl rfl ?_
          refine wpf_skip ?_
          refine thn_n ?_
          have hRw470 := (RowsD.ge hRw434 hS436.grw hH (by omega))
          have k471 := (k432.grown hS436.grw (some_ne (by omega)))
          have k472 := ((ks3_R.grown hS430.grw (some_ne (by omega))).grown hS436.grw (some_ne (by omega)))
          exact ⟨(p247 + 1 + 1), (⟨1 + ((r246.th + k325) % (ms.length : Int)), (mAt ms (((1 + ((r246.th + k325) % (ms.length : Int))) - 1).toNat)).t.ve, r246.rd, r246.wr, r246.wk⟩ : Rt), (by omega), ⟨show (-1 : Int) ≤ 1 + ((r246.th + k325) % (ms.length : Int)) by omega, show 1 + ((r246.th + k325) % (ms.length : Int)) ≤ (9 : Int) by omega, show (-1 : Int) ≤ (mAt ms (((1 + ((r246.th + k325) % (ms.length : Int))) - 1).toNat)).t.ve by omega, show (mAt ms (((1 + ((r246.th + k325) % (ms.length : Int))) - 1).toNat)).t.ve ≤ (9 : Int) by omega⟩, hRw470, k471, (Nat.le_trans (Nat.le_trans (Nat.le_trans (Nat.le_trans (Nat.le_trans (Nat.le_trans (Nat.le_trans hhs hg255.size) hN260.grw.size) hS264.grw.size) hg281.size) hi411.size) hS430.grw.size) hS436.grw.size), e412, e413, e414, e415, e416, e417, hb437, hS436.blk, k471, k472⟩
       ·
        have h473 := of_decide_eq_false h284
        refine wpf_skip ?_
        refine thn_n ?_
        have hRw474 := (RowsD.lt (RowsD.ge (RowsD.low (RowsD.lt hRows hg255 (by omega)) hN260.grw) hS264.grw hH (by omega)) hg281 (by omega))
        have k475 := (((k261.grown0 hN260.grw).grown hS264.grw (some_ne (by omega))).grown hg281 (some_ne (by omega)))
        have k476 := (hS264.blk.grown hg281 (some_ne (by omega)))
        exact ⟨(p247 + 1), r246, (by omega), ⟨show (-1 : Int) ≤ r246.th by omega, show r246.th ≤ (9 : Int) by omega, show (-1 : Int) ≤ r246.ve by omega, show r246.ve ≤ (9 : Int) by omega⟩, hRw474, k475, (Nat.le_trans (Nat.le_trans (Nat.le_trans (Nat.le_trans hhs hg255.size) hN260.grw.size) hS264.grw.size) hg281.size), e237, e238, e239, e240, e236, rfl, hb283, k476, k475, kR280⟩
      ·
       have h477 := of_decide_eq_false h274
       iterate 3 refine wpo_pass rfl rfl rfl h274 rfl ?_
       refine wpo_pickf (v := .bool false) rfl h274 rfl rfl ?_
       refine wpo_nil ?_
       refine wpf_condf rfl rfl ?_
       refine wpf_skip ?_
       refine thn_n ?_
       have hRw478 := (RowsD.ge (RowsD.low (RowsD.lt hRows hg255 (by omega)) hN260.grw) hS264.grw hH (by omega))
       have k479 := ((k261.grown0 hN260.grw).grown hS264.grw (some_ne (by omega)))
       have k480 := ((kR254.grown0 hN260.grw).grown hS264.grw (some_ne (by omega)))
       exact ⟨p247, r246, (by omega), ⟨show (-1 : Int) ≤ r246.th by omega, show r246.th ≤ (9 : Int) by omega, show (-1 : Int) ≤ r246.ve by omega, show r246.ve ≤ (9 : Int) by omega⟩, hRw478, k479, (Nat.le_trans (Nat.le_trans (Nat.le_trans hhs hg255.size) hN260.grw.size) hS264.grw.size), e237, e238, e239, e240, e236, rfl, hb265, hS264.blk, k479, k480⟩
     ·
      rintro f481 w482 ⟨p5, r5, hpp5, hr5, hRows, hOt, hhs, e484, e485, e486, e487, e488, e489, hb483, k490, k491, k492⟩
      have hr5a := hr5.1; have hr5b := hr5.2.1; have hr5c := hr5.2.2.1; have hr5d := hr5.2.2.2
      refine wpf_seq ?_
      obtain ⟨S524, xs525, hSa526, hSl527, hSO528, hSn529⟩ := RowD.slot (RowsD.at hRows (show i3 < ms.length by omega)) (by omega)
      have hSh530 := hH _ (List.mem_of_getElem? (mAt_get (show i3 < ms.length by omega))) _ (Or.inl hSa526)
      refine wpf_draw (m := 7) (vals := [(104, .slice (some ⟨Bt, 0, none⟩) ms.length ct), (105, .int .i64 (i3 : Int)), (106, .pointer (some ⟨Bt, i3 * 8, none⟩)), (107, .pointer (some ⟨Bt, i3 * 8 + 5, none⟩)), (108, .slice ((mAt ms i3).sa) ((mAt ms i3).t.slots.length) ((mAt ms i3).sc)), (109, .int .i64 (j : Int)), (110, .agg #[.int .i64 r5.th, .int .i64 r5.ve, .bool r5.rd, .bool r5.wr, .bool r5.wk])]) (fun w' => w482.grownBy w' none) mixed_ (by kernel_rfl) (grown_drew _) ?_ ?_
      ·
       refine yll_cons rfl (fun w532 hi533 => ?_) ?_
       ·
        have hb534 := low0 hb483 hi533
        refine wpo_move (v := .slice (some ⟨Bt, 0, none⟩) ms.length ct) e486 rfl ?_
        exact wpo_nil ⟨rfl, hi533⟩
       refine yll_cons rfl (fun w535 hi536 => ?_) ?_
       ·
        have hb537 := low0 hb483 hi536
        refine wpo_move (v := .int .i64 (i3 : Int)) e487 rfl ?_
        exact wpo_nil ⟨rfl, hi536⟩
       refine yll_cons rfl (fun w538 hi539 => ?_) ?_
       ·
        have hb540 := low0 hb483 hi539
        refine wpo_indexAddr (o' := i3 * 8) es_54 rfl rfl (by omega) (by omega) (by omega) rfl ?_
        exact wpo_nil ⟨rfl, hi539⟩
       refine yll_cons rfl (fun w541 hi542 => ?_) ?_
       ·
        have hb543 := low0 hb483 hi542
        refine wpo_fieldAddr (o' := i3 * 8 + 5) fo_45_4 rfl rfl rfl ?_
        exact wpo_nil ⟨rfl, hi542⟩
       refine yll_cons rfl (fun w544 hi545 => ?_) ?_
       ·
        have hb546 := low0 hb483 hi545
        have k547 := (hOt.grown0 hi545)
        have hRw549 := (RowsD.low hRows hi545)
        have hve548 := (RowsD.at hRw549 (show i3 < ms.length by omega)).ve
        refine wpo_load1 (v := .slice ((mAt ms i3).sa) ((mAt ms i3).t.slots.length) ((mAt ms i3).sc)) ot_27 rfl ((Own.range wide_mth k547 (mAt_get (show i3 < ms.length by omega))) 5 _ rfl) rfl ?_
        exact wpo_nil ⟨rfl, hi545⟩
       refine yll_cons rfl (fun w550 hi551 => ?_) ?_
       ·
        have hb552 := low0 hb483 hi551
        refine wpo_move (v := .int .i64 (j : Int)) e488 rfl ?_
        exact wpo_nil ⟨rfl, hi551⟩
       refine yll_cons rfl (fun w553 hi554 => ?_) ?_
       ·
        have hb555 := low0 hb483 hi554
        have k556 := (k490.grown0 hi554)
        refine wpo_loadn (vs := [.int .i64 r5.th, .int .i64 r5.ve, .bool r5.rd, .bool r5.wr, .bool r5.wk]) rt_29 e489 rfl (k556.rangeL 0 5 rfl) rfl ?_
        exact wpo_nil ⟨rfl, hi554⟩
       exact yll_nil
      ·
       intro w557 hi558
       have hb559 := low0 hb483 hi558
       refine wpo_indexE es_27 rfl rfl hSa526 (Nat.zero_add _) (by omega) (by omega) rfl ?_
       have hSO560 := (hSO528.grown0 hi558)
       have hRB564 : RB r5 := ⟨show (-1 : Int) ≤ r5.th by omega, show r5.th ≤ (9 : Int) by omega, show (-1 : Int) ≤ r5.ve by omega, show r5.ve ≤ (9 : Int) by omega⟩
       have k565 := (k490.grown0 hi558)
       have k567 := (hOt.grown0 hi558)
       have hne566 := own_ne k567 hSO560 (by decide)
       have k568 := (k492.grown0 hi558)
       have hRw569 := (RowsD.low hRows hi558)
       refine wpo_storeD (z' := r5) rt_29 rfl rfl hSO560 (by omega) rfl ?_
       intro w561 hp562 hg563
       have hb570 := low1 hb559 hg563 (by omega)
       refine wpo_nil ?_
       refine thn_n ?_
       refine wpf_seq_region ?_
       have k587 := (k565.grown hg563 (some_ne (by omega)))
       refine wpo_loadn (vs := [.int .i64 r5.th, .int .i64 r5.ve, .bool r5.rd, .bool r5.wr, .bool r5.wk]) rt_29 e489 rfl (k587.rangeL 0 5 rfl) rfl ?_
       refine wpo_call (vs := [.agg #[.int .i64 r5.th, .int .i64 r5.ve, .bool r5.rd, .bool r5.wr, .bool r5.wk]]) gf_54 (args_cons rfl args_nil) rfl (sRightOk_c r5 _) ?_
       rintro _ w588 ⟨rfl, hg589⟩
       have hb590 := low0 hb570 hg589
       refine wpo_not (b' := !rightOk r5) rfl rfl rfl ?_
       refine wpo_move (v := .bool (!rightOk r5)) rfl rfl ?_
       rcases bcases (!rightOk r5) with h591 | h591
       ·
        have h592 := nt_t h591
        refine wpo_run rfl rfl rfl h591 ?_
        refine wpo_move (v := .pointer (some ⟨R, 0, none⟩)) e484 rfl ?_
        refine wpo_run rfl rfl rfl h591 ?_
        have k593 := ((k568.grown hg563 (some_ne (by omega))).grown0 hg589)
        refine wpo_call (vs := [.pointer (some ⟨R, 0, none⟩), .int .i64 3]) gf_60 (args_cons rfl (args_cons rfl args_nil)) rfl (pick_c p5 3 (by omega) _ R bs _ _ _ k593 (by omega) (SlLt.low1 hs hb590 hlo) (by first | exact hb | exact fun b h => hb b (List.mem_of_mem_take h)) (by first | omega | (rw [List.length_take]; omega))) ?_
        rintro _ w599 ⟨k594, rfl, hk595, hk596, kR597, hg598⟩
        have hb600 := grown_trans hb590 hg598
        refine wpo_run rfl rfl rfl h591 ?_
        refine wpo_gtr (q := decide (0 < k594)) rfl rfl rfl rfl ?_
        refine wpo_pickt (v := .bool (decide (0 < k594))) rfl h591 rfl rfl ?_
        refine wpo_nil ?_
        refine wpf_cond rfl (fun h601 => ?_) (fun h601 => ?_)
        ·
         have h602 := of_decide_eq_true h601
         refine wpf_region ?_
         refine wpo_move (v := .slice (some ⟨Bt, 0, none⟩) ms.length ct) e486 rfl ?_
         refine wpo_move (v := .int .i64 (i3 : Int)) e487 rfl ?_
         refine wpo_indexAddr (o' := i3 * 8) es_54 rfl rfl (by omega) (by omega) (by omega) rfl ?_
         refine wpo_fieldAddr (o' := i3 * 8 + 5) fo_45_4 rfl rfl rfl ?_
         have k603 := (((k567.grown hg563 (some_ne (by omega))).grown0 hg589).grown hg598 (some_ne (by omega)))
         have hRw605 := (RowsD.lt (RowsD.low (RowsD.put hRw569 hp562 hg563 hRB564 hSO560 (by decide)) hg589) hg598 (by omega))
         have hve604 := (RowsD.at hRw605 (show i3 < ms.length by omega)).ve
         refine wpo_load1 (v := .slice ((mAt ms i3).sa) ((mAt ms i3).t.slots.length) ((mAt ms i3).sc)) ot_27 rfl ((Own.range wide_mth k603 (mAt_get (show i3 < ms.length by omega))) 5 _ rfl) rfl ?_
         refine wpo_move (v := .int .i64 (j : Int)) e488 rfl ?_
         refine wpo_build (ps := []) (v := .agg #[.int .i64 0, .int .i64 0, .bool false, .bool false, .bool false]) parts_nil (by kernel_rfl) rfl ?_
         obtain ⟨S606, xs607, hSa608, hSl609, hSO610, hSn611⟩ := RowD.slot (RowsD.at hRw605 (show i3 < ms.length by omega)) (by omega)
         have hSh612 := hH _ (List.mem_of_getElem? (mAt_get (show i3 < ms.length by omega))) _ (Or.inl hSa608)
         refine wpo_indexE es_27 rfl rfl hSa608 (Nat.zero_add _) (by omega) (by omega) rfl ?_
         have hSO613 := hSO610
         have hRB617 : RB (⟨0, 0, false, false, false⟩ : Rt) := ⟨show (-1 : Int) ≤ 0 by omega, show 0 ≤ (9 : Int) by omega, show (-1 : Int) ≤ 0 by omega, show 0 ≤ (9 : Int) by omega⟩
         have k618 := ((k587.grown0 hg589).grown hg598 (some_ne (by omega)))
         have hne619 := own_ne k603 hSO613 (by decide)
         refine wpo_storeD (z' := (⟨0, 0, false, false, false⟩ : Rt)) rt_29 rfl rfl hSO613 (by omega) rfl ?_
         intro w614 hp615 hg616
         have hb620 := low1 hb600 hg616 (by omega)
         refine wpo_nil ?_
         refine blk_n ?_
         refine thn_n ?_
         refine wpf_region ?_
         refine wpo_move (v := .int .i64 (j : Int)) e488 rfl ?_
         refine wpo_add (c := (j : Int) + 1) rfl rfl (by omega) (by omega) (by omega) rfl ?_
         refine wpo_assign (v := .int .i64 ((j : Int) + 1)) rfl rfl ?_
         refine wpo_nil ?_
         refine thn_n ?_
         have hRw621 := (RowsD.put hRw605 hp615 hg616 hRB617 hSO613 (by decide))
         have k622 := (k603.grown hg616 (some_ne (by omega)))
         have k623 := (kR597.grown hg616 (some_ne (by omega)))
         exact ⟨(mAt ms i3).t.slots.length - (j + 1), by omega, (j + 1), (p5 + 1), rfl, (by omega), (by omega), hRw621, k622, (Nat.le_trans (Nat.le_trans (Nat.le_trans (Nat.le_trans (Nat.le_trans hhs hi558.size) hg563.size) hg589.size) hg598.size) hg616.size), rfl, e484, e485, e486, e487, hb620, k622, k623⟩
        ·
         have h624 := of_decide_eq_false h601
         refine wpf_skip ?_
         refine blk_n ?_
         refine thn_n ?_
         refine wpf_region ?_
         refine wpo_move (v := .int .i64 (j : Int)) e488 rfl ?_
         refine wpo_add (c := (j : Int) + 1) rfl rfl (by omega) (by omega) (by omega) rfl ?_
         refine wpo_assign (v := .int .i64 ((j : Int) + 1)) rfl rfl ?_
         refine wpo_nil ?_
         refine thn_n ?_
         have hRw625 := (RowsD.lt (RowsD.low (RowsD.put hRw569 hp562 hg563 hRB564 hSO560 (by decide)) hg589) hg598 (by omega))
         have k626 := (((k567.grown hg563 (some_ne (by omega))).grown0 hg589).grown hg598 (some_ne (by omega)))
         exact ⟨(mAt ms i3).t.slots.length - (j + 1), by omega, (j + 1), (p5 + 1), rfl, (by omega), (by omega), hRw625, k626, (Nat.le_trans (Nat.le_trans (Nat.le_trans (Nat.le_trans hhs hi558.size) hg563.size) hg589.size) hg598.size), rfl, e484, e485, e486, e487, hb600, k626, kR597⟩
       ·
        have h627 := nt_f h591
        iterate 3 refine wpo_pass rfl rfl rfl h591 rfl ?_
        refine wpo_pickf (v := .bool false) rfl h591 rfl rfl ?_
        refine wpo_nil ?_
        refine wpf_condf rfl rfl ?_
        refine wpf_skip ?_
        refine blk_n ?_
        refine thn_n ?_
        refine wpf_region ?_
        refine wpo_move (v := .int .i64 (j : Int)) e488 rfl ?_
        refine wpo_add (c := (j : Int) + 1) rfl rfl (by omega) (by omega) (by omega) rfl ?_
        refine wpo_assign (v := .int .i64 ((j : Int) + 1)) rfl rfl ?_
        refine wpo_nil ?_
        refine thn_n ?_
        have hRw628 := (RowsD.low (RowsD.put hRw569 hp562 hg563 hRB564 hSO560 (by decide)) hg589)
        have k629 := ((k567.grown hg563 (some_ne (by omega))).grown0 hg589)
        have k630 := ((k568.grown hg563 (some_ne (by omega))).grown0 hg589)
        exact ⟨(mAt ms i3).t.slots.length - (j + 1), by omega, (j + 1), p5, rfl, (by omega), (by omega), hRw628, k629, (Nat.le_trans (Nat.le_trans (Nat.le_trans hhs hi558.size) hg563.size) hg589.size), rfl, e484, e485, e486, e487, hb590, k629, k630⟩
    ·
     have h631 := of_decide_eq_false h244
     refine wpf_exit ?_
     refine thn_e ?_
     refine thn_e ?_
     refine blk_e ?_
     refine blk_n ?_
     refine thn_n ?_
     refine wpf_region ?_
     refine wpo_move (v := .int .i64 (i3 : Int)) e240 rfl ?_
     refine wpo_add (c := (i3 : Int) + 1) rfl rfl (by omega) (by omega) (by omega) rfl ?_
     refine wpo_assign (v := .int .i64 ((i3 : Int) + 1)) rfl rfl ?_
     refine wpo_nil ?_
     refine thn_n ?_
     exact ⟨ms.length - (i3 + 1), by omega, (i3 + 1), p4, rfl, (by omega), (by omega), hRows, hOt, hhs, rfl, e237, e238, e239, hb234, hOt, k242⟩
   ·
    have h632 := of_decide_eq_false h230
    refine wpf_exit ?_
    refine thn_e ?_
    refine thn_e ?_
    refine blk_e ?_
    refine thn_n ?_
    refine wpf_seq ?_
    refine wpf_seq_region ?_
    refine wpo_move (v := .pointer (some ⟨R, 0, none⟩)) e225 rfl ?_
    refine wpo_call (vs := [.pointer (some ⟨R, 0, none⟩), .int .i64 30]) gf_60 (args_cons rfl (args_cons rfl args_nil)) rfl (pick_c p3 30 (by omega) _ R bs _ _ _ k229 (by omega) (SlLt.low1 hs hb222 hlo) (by first | exact hb | exact fun b h => hb b (List.mem_of_mem_take h)) (by first | omega | (rw [List.length_take]; omega))) ?_
    rintro _ w638 ⟨k633, rfl, hk634, hk635, kR636, hg637⟩
    have hb639 := grown_trans hb222 hg637
    refine wpo_eql (q := decide (k633 = 0)) rfl rfl rfl rfl ?_
    refine wpo_nil ?_
    refine wpf_cond rfl (fun h640 => ?_) (fun h640 => ?_)
    ·
     have h641 := of_decide_eq_true h640
     refine wpf_region ?_
     refine wpo_move (v := .slice (some ⟨Bt, 0, none⟩) ms.length ct) e227 rfl ?_
     refine wpo_move (v := .pointer (some ⟨R, 0, none⟩)) e225 rfl ?_
     refine wpo_move (v := .slice (some ⟨Bt, 0, none⟩) ms.length ct) e227 rfl ?_
     refine wpo_len (by kernel_rfl) rfl rfl ?_
     refine wpo_call (vs := [.pointer (some ⟨R, 0, none⟩), .int .i64 (ms.length : Int)]) gf_60 (args_cons rfl (args_cons rfl args_nil)) rfl (pick_c (p3 + 1) (ms.length : Int) (by omega) _ R bs _ _ _ kR636 (by omega) (SlLt.low1 hs hb639 hlo) (by first | exact hb | exact fun b h => hb b (List.mem_of_mem_take h)) (by first | omega | (rw [List.length_take]; omega))) ?_
     rintro _ w647 ⟨k642, rfl, hk643, hk644, kR645, hg646⟩
     have hb648 := grown_trans hb639 hg646
     refine wpo_move (v := .pointer (some ⟨R, 0, none⟩)) e225 rfl ?_
     refine wpo_call (vs := [.pointer (some ⟨R, 0, none⟩), .int .i64 5]) gf_60 (args_cons rfl (args_cons rfl args_nil)) rfl (pick_c (p3 + 1 + 1) 5 (by omega) _ R bs _ _ _ kR645 (by omega) (SlLt.low1 hs hb648 hlo) (by first | exact hb | exact fun b h => hb b (List.mem_of_mem_take h)) (by first | omega | (rw [List.length_take]; omega))) ?_
     rintro _ w654 ⟨k649, rfl, hk650, hk651, kR652, hg653⟩
     have hb655 := grown_trans hb648 hg653
     refine wpo_add (c := 1 + k649) rfl rfl (by omega) (by omega) (by omega) rfl ?_
     refine wpo_indexAddr (o' := (k642).toNat * 8) es_54 rfl rfl (by omega) (by omega) (by omega) rfl ?_
     refine wpo_fieldAddr (o' := (k642).toNat * 8) fo_45_0 rfl rfl rfl ?_
     have k656 := (((hOt.grown hg637 (some_ne (by omega))).grown hg646 (some_ne (by omega))).grown hg653 (some_ne (by omega)))
     have hRw661 := (RowsD.lt (RowsD.lt (RowsD.lt hRows hg637 (by omega)) hg646 (by omega)) hg653 (by omega))
     have hve660 := (RowsD.at hRw661 (show (k642).toNat < ms.length by omega)).ve
     refine wpo_store1O (g := MTh.cells) (j := 0) (z := (mAt ms ((k642).toNat))) (z' := (⟨⟨1 + k649, ((mAt ms ((k642).toNat)).t.lab), (mAt ms ((k642).toNat)).t.ve, (mAt ms ((k642).toNat)).t.num, (mAt ms ((k642).toNat)).t.slots, (mAt ms ((k642).toNat)).t.queue, (mAt ms ((k642).toNat)).t.to⟩, (mAt ms ((k642).toNat)).sa, (mAt ms ((k642).toNat)).sc, (mAt ms ((k642).toNat)).qa, (mAt ms ((k642).toNat)).qc⟩ : MTh)) (v := .int .i64 (1 + k649)) ot_3 rfl rfl rfl wide_mth k656 (mAt_get (show (k642).toNat < ms.length by omega)) (by omega) rfl rfl ?_
     intro w657 hO658 hg659
     have hb662 := low1 hb655 hg659 (by omega)
     refine wpo_nil ?_
     refine thn_n ?_
     refine wpf_seq_region ?_
     refine wpo_move (v := .slice (some ⟨Bt, 0, none⟩) ms.length ct) e227 rfl ?_
     refine wpo_assign (v := .slice (some ⟨Bt, 0, none⟩) ms.length ct) rfl rfl ?_
     refine wpo_nil ?_
     refine wpf_ret ?_
     have hRw663 := (RowsD.typ hRw661 hg659 k656 (by decide) (by decide))
     obtain ⟨ms9, hc9, hx9, hs9⟩ := RowsD.tab _ (RowsD.setk (i := (k642).toNat) (m' := (⟨⟨1 + k649, ((mAt ms ((k642).toNat)).t.lab), (mAt ms ((k642).toNat)).t.ve, (mAt ms ((k642).toNat)).t.num, (mAt ms ((k642).toNat)).t.slots, (mAt ms ((k642).toNat)).t.queue, (mAt ms ((k642).toNat)).t.to⟩, (mAt ms ((k642).toNat)).sa, (mAt ms ((k642).toNat)).sc, (mAt ms ((k642).toNat)).qa, (mAt ms ((k642).toNat)).qc⟩ : MTh)) hRw663 (by omega) ⟨rfl, rfl, rfl⟩ ⟨rfl, rfl, rfl⟩ rfl)
     have hl9 := congrArg List.length hc9
     simp only [List.length_map, List.length_set] at hl9
     have ho9 := hO658
     rw [← tab_flat hc9] at ho9
     have k664 := (kR652.grown hg659 (some_ne (by omega)))
     refine ⟨.slice (some ⟨Bt, 0, none⟩) ms.length ct, res1 rfl rfl, Bt, ct, ms9, (p3 + 1 + 1 + 1), ?_, ⟨SlG.own wide_mth ho9 hlBt, hx9⟩, hs9, by omega, by omega, by omega, k664, hb662⟩
     show Value.slice _ _ _ = Value.slice _ _ _
     congr 1; first | omega | (simp only [List.length_set]; omega)
    ·
     have h665 := of_decide_eq_false h640
     refine wpf_skip ?_
     refine thn_n ?_
     refine wpf_seq_region ?_
     refine wpo_move (v := .slice (some ⟨Bt, 0, none⟩) ms.length ct) e227 rfl ?_
     refine wpo_assign (v := .slice (some ⟨Bt, 0, none⟩) ms.length ct) rfl rfl ?_
     refine wpo_nil ?_
     refine wpf_ret ?_
     have hRw666 := (RowsD.lt hRows hg637 (by omega))
     have k667 := (hOt.grown hg637 (some_ne (by omega)))
     obtain ⟨ms9, hc9, hx9, hs9⟩ := RowsD.tab _ hRw666
     have hl9 := congrArg List.length hc9
     simp only [List.length_map, List.length_set] at hl9
     have ho9 := k667
     rw [← tab_flat hc9] at ho9
     refine ⟨.slice (some ⟨Bt, 0, none⟩) ms.length ct, res1 rfl rfl, Bt, ct, ms9, (p3 + 1), ?_, ⟨SlG.own wide_mth ho9 hlBt, hx9⟩, hs9, by omega, by omega, by omega, kR636, hb639⟩
     show Value.slice _ _ _ = Value.slice _ _ _
     congr 1; first | omega | (simp only [List.length_set]; omega)
theorem l71Fine_c (p : Int) (hp : 0 ≤ p ∧ p ≤ 999999980000) (lo R : Nat) (bs : List Int) (a : Option Addr) (c : Nat) (w : World) (hR : Blk w R 121 #[.slice a bs.length c, .int .i64 p]) (hlo : lo ≤ R) (hs : SlLt lo w a 1 (bs.map bcell)) (hb : ∀ b ∈ bs, 0 ≤ b ∧ b ≤ 255) (hn : bs.length ≤ 1048576) : CallsR Try.prog 82 #[.pointer (some ⟨R, 0, none⟩)] w (fun v w' => ∃ (B cap : Nat) (ms : List MTh) (p' : Int), v = .slice (some ⟨B, 0, none⟩) ms.length cap ∧ TabG w.heap.size w' (some ⟨B, 0, none⟩) ms ∧ Small ms ∧ (3 ≤ ms.length ∧ ms.length ≤ 8) ∧ p ≤ p' ∧ p' ≤ p + 4000 ∧ Blk w' R 121 #[.slice a bs.length c, .int .i64 p'] ∧ w.grownBy w' (some R)) := by
 refine calls_of_wpf (n := 24) Try.func82 rfl Try.ntmps82 rfl ?_
 have hb0 := World.grownBy.refl w (some R)
 have hRlt := hR.lt
 refine wpf_seq_region ?_
 refine wpo_assign (v := .slice none 0 0) rfl rfl ?_
 refine wpo_nil ?_
 refine wpf_seq_region ?_
 refine wpo_move (v := .pointer (some ⟨R, 0, none⟩)) rfl rfl ?_
 refine wpo_call (vs := [.pointer (some ⟨R, 0, none⟩)]) gf_102 (args_cons rfl args_nil) rfl (l71Table_c p (by omega) _ R bs _ _ _ hR (by omega) (SlLt.low1 hs hb0 hlo) (by first | exact hb | exact fun b h => hb b (List.mem_of_mem_take h)) (by first | omega | (rw [List.length_take]; omega))) ?_
 rintro _ w112 ⟨B101, cap102, ms103, p104, rfl, hTG105, hTS106, hTn107, hp108, hp109, kR110, hg111⟩
 have hb113 := grown_trans hb0 hg111
 have hTG114 := TabG.mono hTG105 hb0.size
 have hTl115 := hTS106.len
 refine wpo_assign (v := .slice (some ⟨B101, 0, none⟩) ms103.length cap102) rfl rfl ?_
 refine wpo_nil ?_
 refine wpf_seq ?_
 refine wpf_seq_region ?_
 refine wpo_assign (v := .int .i64 0) rfl rfl ?_
 refine wpo_nil ?_
 refine wpf_block ?_
 refine wpf_loopN (fun mm f' w' => ∃ (i : Nat) (p1 : Int) (B : Nat) (cap : Nat) (ms : List MTh), mm = 4 - i ∧ i ≤ 4 ∧ (p ≤ p1 ∧ p1 ≤ p + 600 + 601 * (i : Int)) ∧ TabG w.heap.size w' (some ⟨B, 0, none⟩) ms ∧ Small ms ∧ (3 ≤ ms.length ∧ ms.length ≤ 8) ∧ f' 3 = .slice (some ⟨B, 0, none⟩) ms.length cap ∧ f' 4 = .int .i64 (i : Int) ∧ f' 0 = .pointer (some ⟨R, 0, none⟩) ∧ f' 2 = .slice none 0 0 ∧ w.grownBy w' (some R) ∧ Blk w' R 121 #[.slice a bs.length c, .int .i64 p1]) (4 - 0) ⟨0, p104, B101, cap102, ms103, rfl, (Nat.zero_le _), (by omega), hTG114, hTS106, hTn107, rfl, rfl, rfl, rfl, hb113, kR110⟩ ?_
 rintro mm f116 w117 ⟨i, p1, B, cap, ms, hm119, hi, hpp, hTG, hTS, hTn, e120, e121, e122, e123, hb118, k124⟩
 have hTl125 := hTS.len
 refine wpf_seq ?_
 refine wpf_seq_region ?_
 refine wpo_move (v := .int .i64 (i : Int)) e121 rfl ?_
 refine wpo_lss (q := decide ((i : Int) < 4)) rfl rfl rfl rfl ?_
 refine wpo_move (v := .bool (decide ((i : Int) < 4))) rfl rfl ?_
 rcases bcases (decide ((i : Int) < 4)) with h137 | h137
 ·
  have h138 := of_decide_eq_true h137
  refine wpo_run rfl rfl rfl h137 ?_
  refine wpo_move (v := .pointer (some ⟨R, 0, none⟩)) e122 rfl ?_
  refine wpo_run rfl rfl rfl h137 ?_
  refine wpo_call (vs := [.pointer (some ⟨R, 0, none⟩), .int .i64 16]) gf_60 (args_cons rfl (args_cons rfl args_nil)) rfl (pick_c p1 16 (by omega) _ R bs _ _ _ k124 (by omega) (SlLt.low1 hs hb118 hlo) (by first | exact hb | exact fun b h => hb b (List.mem_of_mem_take h)) (by first | omega | (rw [List.length_take]; omega))) ?_
  rintro _ w144 ⟨k139, rfl, hk140, hk141, kR142, hg143⟩
  have hb145 := grown_trans hb118 hg143
  refine wpo_run rfl rfl rfl h137 ?_
  refine wpo_gtr (q := decide (0 < k139)) rfl rfl rfl rfl ?_
  refine wpo_pickt (v := .bool (decide (0 < k139))) rfl h137 rfl rfl ?_
  refine wpo_move (v := .bool (decide (0 < k139))) rfl rfl ?_
  rcases bcases (decide (0 < k139)) with h146 | h146
  ·
   have h147 := of_decide_eq_true h146
   refine wpo_run rfl rfl rfl h146 ?_
   refine wpo_move (v := .slice (some ⟨B, 0, none⟩) ms.length cap) e120 rfl ?_
   refine wpo_run rfl rfl rfl h146 ?_
   have hTG148 := (TabG.lt hTG hg143 (by omega))
   refine wpo_call (vs := [.slice (some ⟨B, 0, none⟩) ms.length cap]) gf_34 (args_cons rfl args_nil) rfl (sTableOk_c  _ ms _ _ (TabG.at hTG148) hTl125 (by omega)) ?_
   rintro _ w149 ⟨rfl, hg150⟩
   have hb151 := low0 hb145 hg150
   refine wpo_run rfl rfl rfl h146 ?_
   refine wpo_not (b' := !tableOk (tabT ms)) rfl rfl rfl ?_
   refine wpo_pickt (v := .bool (!tableOk (tabT ms))) rfl h146 rfl rfl ?_
   refine wpo_nil ?_
   refine wpf_cond rfl (fun h152 => ?_) (fun h152 => ?_)
   ·
    have h153 := nt_t h152
    refine wpf_skip ?_
    refine thn_n ?_
    refine wpf_seq ?_
    refine wpf_block ?_
    refine wpf_region ?_
    refine wpo_move (v := .pointer (some ⟨R, 0, none⟩)) e122 rfl ?_
    have k154 := (kR142.grown0 hg150)
    refine wpo_call (vs := [.pointer (some ⟨R, 0, none⟩)]) gf_102 (args_cons rfl args_nil) rfl (l71Table_c (p1 + 1) (by omega) _ R bs _ _ _ k154 (by omega) (SlLt.low1 hs hb151 hlo) (by first | exact hb | exact fun b h => hb b (List.mem_of_mem_take h)) (by first | omega | (rw [List.length_take]; omega))) ?_
    rintro _ w166 ⟨B155, cap156, ms157, p158, rfl, hTG159, hTS160, hTn161, hp162, hp163, kR164, hg165⟩
    have hb167 := grown_trans hb151 hg165
    have hTG168 := TabG.mono hTG159 hb151.size
    have hTl169 := hTS160.len
    refine wpo_assign (v := .slice (some ⟨B155, 0, none⟩) ms157.length cap156) rfl rfl ?_
    refine wpo_nil ?_
    refine blk_n ?_
    refine thn_n ?_
    refine wpf_region ?_
    refine wpo_move (v := .int .i64 (i : Int)) e121 rfl ?_
    refine wpo_add (c := (i : Int) + 1) rfl rfl (by omega) (by omega) (by omega) rfl ?_
    refine wpo_assign (v := .int .i64 ((i : Int) + 1)) rfl rfl ?_
    refine wpo_nil ?_
    refine thn_n ?_
    exact ⟨4 - (i + 1), by omega, (i + 1), p158, B155, cap156, ms157, rfl, (by omega), (by omega), hTG168, hTS160, hTn161, rfl, rfl, e122, e123, hb167, kR164⟩
   ·
    have h170 := nt_f h152
    refine wpf_exit ?_
    refine thn_e ?_
    refine thn_e ?_
    refine blk_e ?_
    refine thn_n ?_
    refine wpf_seq_region ?_
    refine wpo_move (v := .slice (some ⟨B, 0, none⟩) ms.length cap) e120 rfl ?_
    refine wpo_assign (v := .slice (some ⟨B, 0, none⟩) ms.length cap) rfl rfl ?_
    refine wpo_nil ?_
    refine wpf_ret ?_
    have hTG171 := (TabG.low hTG148 hg150)
    have k172 := (kR142.grown0 hg150)
    exact ⟨.slice (some ⟨B, 0, none⟩) ms.length cap, res1 rfl rfl, B, cap, ms, (p1 + 1), rfl, hTG171, hTS, hTn, by omega, by omega, k172, hb151⟩
  ·
   have h173 := of_decide_eq_false h146
   iterate 3 refine wpo_pass rfl rfl rfl h146 rfl ?_
   refine wpo_pickf (v := .bool false) rfl h146 rfl rfl ?_
   refine wpo_nil ?_
   refine wpf_condf rfl rfl ?_
   refine wpf_exit ?_
   refine thn_e ?_
   refine thn_e ?_
   refine blk_e ?_
   refine thn_n ?_
   refine wpf_seq_region ?_
   refine wpo_move (v := .slice (some ⟨B, 0, none⟩) ms.length cap) e120 rfl ?_
   refine wpo_assign (v := .slice (some ⟨B, 0, none⟩) ms.length cap) rfl rfl ?_
   refine wpo_nil ?_
   refine wpf_ret ?_
   have hTG174 := (TabG.lt hTG hg143 (by omega))
   exact ⟨.slice (some ⟨B, 0, none⟩) ms.length cap, res1 rfl rfl, B, cap, ms, (p1 + 1), rfl, hTG174, hTS, hTn, by omega, by omega, kR142, hb145⟩
 ·
  have h175 := of_decide_eq_false h137
  iterate 3 refine wpo_pass rfl rfl rfl h137 rfl ?_
  refine wpo_pickf (v := .bool false) rfl h137 rfl rfl ?_
  refine wpo_move (v := .bool false) rfl rfl ?_
  iterate 3 refine wpo_pass rfl rfl rfl rfl rfl ?_
  refine wpo_pickf (v := .bool false) rfl rfl rfl rfl ?_
  refine wpo_nil ?_
  refine wpf_condf rfl rfl ?_
  refine wpf_exit ?_
  refine thn_e ?_
  refine thn_e ?_
  refine blk_e ?_
  refine thn_n ?_
  refine wpf_seq_region ?_
  refine wpo_move (v := .slice (some ⟨B, 0, none⟩) ms.length cap) e120 rfl ?_
  refine wpo_assign (v := .slice (some ⟨B, 0, none⟩) ms.length cap) rfl rfl ?_
  refine wpo_nil ?_
  refine wpf_ret ?_
  exact ⟨.slice (some ⟨B, 0, none⟩) ms.length cap, res1 rfl rfl, B, cap, ms, p1, rfl, hTG, hTS, hTn, by omega, by omega, k124, hb118⟩
theorem gf_117 : goFn Try.prog 117 = true := by kernel_rfl
theorem gf_118 : goFn Try.prog 118 = true := by kernel_rfl
theorem l11Sees_c (run thing : Int) (w : World) (ms : List MTh) (a : Option Addr) (c : Nat) (ht : TabAt w a ms) (hlen : TabLen ms) (hn : ms.length ≤ 1048576) (hT : tableOk (tabT ms) = true) (hr : 1 ≤ run ∧ run ≤ (ms.length : Int)) (hth : 1 ≤ thing ∧ thing ≤ (ms.length : Int)) : CallsR Try.prog 122 #[.slice a ms.length c, .int .i64 run, .int .i64 thing] w (fun v w' => v = .bool (sees (tabT ms) run thing) ∧ w.grownBy w' none) := by
 refine calls_of_wpf (n := 20) Try.func122 rfl Try.ntmps122 rfl ?_
 have hb0 := World.grownBy.refl w none
 refine wpf_seq_region ?_
 refine wpo_assign (v := .bool false) rfl rfl ?_
 refine wpo_nil ?_
 refine wpf_seq ?_
 obtain ⟨b145, q146, o147, ha148, ho149, hr150⟩ := SlAt.at (TabAt.low ht hb0).1 (map_get (mAt_get (show (thing - 1).toNat < ms.length by omega)))
 have hle151 := TabLen.at hlen (mAt_get (show (thing - 1).toNat < ms.length by omega))
 obtain ⟨b154, q155, o156, ha157, ho158, hr159⟩ := SlAt.at (TabAt.low ht hb0).1 (map_get (mAt_get (show (run - 1).toNat < ms.length by omega)))
 have hle160 := TabLen.at hlen (mAt_get (show (run - 1).toNat < ms.length by omega))
 refine wpf_draw (m := 12) (vals := [(7, .slice a ms.length c), (8, .int .i64 thing), (9, .int .i64 (thing - 1)), (10, .pointer (some ⟨b145, o147, none⟩)), (11, .pointer (some ⟨b145, o147 + 1, none⟩)), (12, .agg #[.int .i64 ((mAt ms ((thing - 1).toNat)).t.lab.s), .int .i64 ((mAt ms ((thing - 1).toNat)).t.lab.v)]), (13, .slice a ms.length c), (14, .int .i64 run), (15, .int .i64 (run - 1)), (16, .pointer (some ⟨b154, o156, none⟩)), (17, .pointer (some ⟨b154, o156 + 1, none⟩)), (18, .agg #[.int .i64 ((mAt ms ((run - 1).toNat)).t.lab.s), .int .i64 ((mAt ms ((run - 1).toNat)).t.lab.v)])]) (fun w' => w.grownBy w' none) mixed_ (by kernel_rfl) (grown_drew _) ?_ ?_
 ·
  refine yll_cons rfl (fun w164 hi165 => ?_) ?_
  ·
   have hb166 := low0 hb0 hi165
   refine wpo_move (v := .slice a ms.length c) rfl rfl ?_
   exact wpo_nil ⟨rfl, hi165⟩
  refine yll_cons rfl (fun w167 hi168 => ?_) ?_
  ·
   have hb169 := low0 hb0 hi168
   refine wpo_move (v := .int .i64 thing) rfl rfl ?_
   exact wpo_nil ⟨rfl, hi168⟩
  refine yll_cons rfl (fun w170 hi171 => ?_) ?_
  ·
   have hb172 := low0 hb0 hi171
   refine wpo_sub (c := thing - 1) rfl rfl (by omega) (by omega) (by omega) rfl ?_
   exact wpo_nil ⟨rfl, hi171⟩
  refine yll_cons rfl (fun w173 hi174 => ?_) ?_
  ·
   have hb175 := low0 hb0 hi174
   refine wpo_indexE es_54 rfl rfl ha148 ho149 (by omega) (by omega) rfl ?_
   exact wpo_nil ⟨rfl, hi174⟩
  refine yll_cons rfl (fun w176 hi177 => ?_) ?_
  ·
   have hb178 := low0 hb0 hi177
   refine wpo_fieldAddr (o' := o147 + 1) fo_45_1 rfl rfl rfl ?_
   exact wpo_nil ⟨rfl, hi177⟩
  refine yll_cons rfl (fun w179 hi180 => ?_) ?_
  ·
   have hb181 := low0 hb0 hi180
   refine wpo_loadn (vs := [.int .i64 ((mAt ms ((thing - 1).toNat)).t.lab.s), .int .i64 ((mAt ms ((thing - 1).toNat)).t.lab.v)]) rt_40 rfl rfl (range_sub (range_low hr150 hi180) 1 2 rfl) rfl ?_
   exact wpo_nil ⟨rfl, hi180⟩
  refine yll_cons rfl (fun w182 hi183 => ?_) ?_
  ·
   have hb184 := low0 hb0 hi183
   refine wpo_move (v := .slice a ms.length c) rfl rfl ?_
   exact wpo_nil ⟨rfl, hi183⟩
  refine yll_cons rfl (fun w185 hi186 => ?_) ?_
  ·
   have hb187 := low0 hb0 hi186
   refine wpo_move (v := .int .i64 run) rfl rfl ?_
   exact wpo_nil ⟨rfl, hi186⟩
  refine yll_cons rfl (fun w188 hi189 => ?_) ?_
  ·
   have hb190 := low0 hb0 hi189
   refine wpo_sub (c := run - 1) rfl rfl (by omega) (by omega) (by omega) rfl ?_
   exact wpo_nil ⟨rfl, hi189⟩
  refine yll_cons rfl (fun w191 hi192 => ?_) ?_
  ·
   have hb193 := low0 hb0 hi192
   refine wpo_indexE es_54 rfl rfl ha157 ho158 (by omega) (by omega) rfl ?_
   exact wpo_nil ⟨rfl, hi192⟩
  refine yll_cons rfl (fun w194 hi195 => ?_) ?_
  ·
   have hb196 := low0 hb0 hi195
   refine wpo_fieldAddr (o' := o156 + 1) fo_45_1 rfl rfl rfl ?_
   exact wpo_nil ⟨rfl, hi195⟩
  refine yll_cons rfl (fun w197 hi198 => ?_) ?_
  ·
   have hb199 := low0 hb0 hi198
   refine wpo_loadn (vs := [.int .i64 ((mAt ms ((run - 1).toNat)).t.lab.s), .int .i64 ((mAt ms ((run - 1).toNat)).t.lab.v)]) rt_40 rfl rfl (range_sub (range_low hr159 hi198) 1 2 rfl) rfl ?_
   exact wpo_nil ⟨rfl, hi198⟩
  exact yll_nil
 ·
  intro w200 hi201
  have hb202 := low0 hb0 hi201
  have hl203 : labelOk ((mAt ms ((thing - 1).toNat)).t.lab) = true := tab_lab hT (show ((thing - 1).toNat) < ms.length by omega)
  have hl204 : labelOk ((mAt ms ((run - 1).toNat)).t.lab) = true := tab_lab hT (show ((run - 1).toNat) < ms.length by omega)
  refine wpo_call (vs := [.agg #[.int .i64 ((mAt ms ((thing - 1).toNat)).t.lab.s), .int .i64 ((mAt ms ((thing - 1).toNat)).t.lab.v)], .agg #[.int .i64 ((mAt ms ((run - 1).toNat)).t.lab.s), .int .i64 ((mAt ms ((run - 1).toNat)).t.lab.v)]]) gf_86 (args_cons rfl (args_cons rfl args_nil)) rfl (l1Flow_c ((mAt ms ((thing - 1).toNat)).t.lab) ((mAt ms ((run - 1).toNat)).t.lab) hl203 hl204 _) ?_
  rintro _ w205 ⟨rfl, hg206⟩
  have hb207 := low0 hb202 hg206
  refine wpo_assign (v := .bool (flow ((mAt ms ((thing - 1).toNat)).t.lab) ((mAt ms ((run - 1).toNat)).t.lab))) rfl rfl ?_
  refine wpo_nil ?_
  refine thn_n ?_
  refine wpf_ret ?_
  refine ⟨.bool (flow ((mAt ms ((thing - 1).toNat)).t.lab) ((mAt ms ((run - 1).toNat)).t.lab)), res1 rfl rfl, ?_, hb207⟩
  exact congrArg Value.bool sees_m
theorem l11Touches_c (run thing : Int) (w : World) (ms : List MTh) (a : Option Addr) (c : Nat) (ht : TabAt w a ms) (hlen : TabLen ms) (hn : ms.length ≤ 1048576) (hT : tableOk (tabT ms) = true) (hr : 1 ≤ run ∧ run ≤ (ms.length : Int)) (hth : 1 ≤ thing ∧ thing ≤ (ms.length : Int)) : CallsR Try.prog 124 #[.slice a ms.length c, .int .i64 run, .int .i64 thing] w (fun v w' => v = .bool (touches (tabT ms) run thing) ∧ w.grownBy w' none) := by
 refine calls_of_wpf (n := 20) Try.func124 rfl Try.ntmps124 rfl ?_
 have hb0 := World.grownBy.refl w none
 refine wpf_seq_region ?_
 refine wpo_assign (v := .bool false) rfl rfl ?_
 refine wpo_nil ?_
 refine wpf_seq ?_
 obtain ⟨b145, q146, o147, ha148, ho149, hr150⟩ := SlAt.at (TabAt.low ht hb0).1 (map_get (mAt_get (show (run - 1).toNat < ms.length by omega)))
 have hle151 := TabLen.at hlen (mAt_get (show (run - 1).toNat < ms.length by omega))
 obtain ⟨b154, q155, o156, ha157, ho158, hr159⟩ := SlAt.at (TabAt.low ht hb0).1 (map_get (mAt_get (show (thing - 1).toNat < ms.length by omega)))
 have hle160 := TabLen.at hlen (mAt_get (show (thing - 1).toNat < ms.length by omega))
 refine wpf_draw (m := 12) (vals := [(7, .slice a ms.length c), (8, .int .i64 run), (9, .int .i64 (run - 1)), (10, .pointer (some ⟨b145, o147, none⟩)), (11, .pointer (some ⟨b145, o147 + 1, none⟩)), (12, .agg #[.int .i64 ((mAt ms ((run - 1).toNat)).t.lab.s), .int .i64 ((mAt ms ((run - 1).toNat)).t.lab.v)]), (13, .slice a ms.length c), (14, .int .i64 thing), (15, .int .i64 (thing - 1)), (16, .pointer (some ⟨b154, o156, none⟩)), (17, .pointer (some ⟨b154, o156 + 1, none⟩)), (18, .agg #[.int .i64 ((mAt ms ((thing - 1).toNat)).t.lab.s), .int .i64 ((mAt ms ((thing - 1).toNat)).t.lab.v)])]) (fun w' => w.grownBy w' none) mixed_ (by kernel_rfl) (grown_drew _) ?_ ?_
 ·
  refine yll_cons rfl (fun w164 hi165 => ?_) ?_
  ·
   have hb166 := low0 hb0 hi165
   refine wpo_move (v := .slice a ms.length c) rfl rfl ?_
   exact wpo_nil ⟨rfl, hi165⟩
  refine yll_cons rfl (fun w167 hi168 => ?_) ?_
  ·
   have hb169 := low0 hb0 hi168
   refine wpo_move (v := .int .i64 run) rfl rfl ?_
   exact wpo_nil ⟨rfl, hi168⟩
  refine yll_cons rfl (fun w170 hi171 => ?_) ?_
  ·
   have hb172 := low0 hb0 hi171
   refine wpo_sub (c := run - 1) rfl rfl (by omega) (by omega) (by omega) rfl ?_
   exact wpo_nil ⟨rfl, hi171⟩
  refine yll_cons rfl (fun w173 hi174 => ?_) ?_
  ·
   have hb175 := low0 hb0 hi174
   refine wpo_indexE es_54 rfl rfl ha148 ho149 (by omega) (by omega) rfl ?_
   exact wpo_nil ⟨rfl, hi174⟩
  refine yll_cons rfl (fun w176 hi177 => ?_) ?_
  ·
   have hb178 := low0 hb0 hi177
   refine wpo_fieldAddr (o' := o147 + 1) fo_45_1 rfl rfl rfl ?_
   exact wpo_nil ⟨rfl, hi177⟩
  refine yll_cons rfl (fun w179 hi180 => ?_) ?_
  ·
   have hb181 := low0 hb0 hi180
   refine wpo_loadn (vs := [.int .i64 ((mAt ms ((run - 1).toNat)).t.lab.s), .int .i64 ((mAt ms ((run - 1).toNat)).t.lab.v)]) rt_40 rfl rfl (range_sub (range_low hr150 hi180) 1 2 rfl) rfl ?_
   exact wpo_nil ⟨rfl, hi180⟩
  refine yll_cons rfl (fun w182 hi183 => ?_) ?_
  ·
   have hb184 := low0 hb0 hi183
   refine wpo_move (v := .slice a ms.length c) rfl rfl ?_
   exact wpo_nil ⟨rfl, hi183⟩
  refine yll_cons rfl (fun w185 hi186 => ?_) ?_
  ·
   have hb187 := low0 hb0 hi186
   refine wpo_move (v := .int .i64 thing) rfl rfl ?_
   exact wpo_nil ⟨rfl, hi186⟩
  refine yll_cons rfl (fun w188 hi189 => ?_) ?_
  ·
   have hb190 := low0 hb0 hi189
   refine wpo_sub (c := thing - 1) rfl rfl (by omega) (by omega) (by omega) rfl ?_
   exact wpo_nil ⟨rfl, hi189⟩
  refine yll_cons rfl (fun w191 hi192 => ?_) ?_
  ·
   have hb193 := low0 hb0 hi192
   refine wpo_indexE es_54 rfl rfl ha157 ho158 (by omega) (by omega) rfl ?_
   exact wpo_nil ⟨rfl, hi192⟩
  refine yll_cons rfl (fun w194 hi195 => ?_) ?_
  ·
   have hb196 := low0 hb0 hi195
   refine wpo_fieldAddr (o' := o156 + 1) fo_45_1 rfl rfl rfl ?_
   exact wpo_nil ⟨rfl, hi195⟩
  refine yll_cons rfl (fun w197 hi198 => ?_) ?_
  ·
   have hb199 := low0 hb0 hi198
   refine wpo_loadn (vs := [.int .i64 ((mAt ms ((thing - 1).toNat)).t.lab.s), .int .i64 ((mAt ms ((thing - 1).toNat)).t.lab.v)]) rt_40 rfl rfl (range_sub (range_low hr159 hi198) 1 2 rfl) rfl ?_
   exact wpo_nil ⟨rfl, hi198⟩
  exact yll_nil
 ·
  intro w200 hi201
  have hb202 := low0 hb0 hi201
  have hl203 : labelOk ((mAt ms ((run - 1).toNat)).t.lab) = true := tab_lab hT (show ((run - 1).toNat) < ms.length by omega)
  have hl204 : labelOk ((mAt ms ((thing - 1).toNat)).t.lab) = true := tab_lab hT (show ((thing - 1).toNat) < ms.length by omega)
  refine wpo_call (vs := [.agg #[.int .i64 ((mAt ms ((run - 1).toNat)).t.lab.s), .int .i64 ((mAt ms ((run - 1).toNat)).t.lab.v)], .agg #[.int .i64 ((mAt ms ((thing - 1).toNat)).t.lab.s), .int .i64 ((mAt ms ((thing - 1).toNat)).t.lab.v)]]) gf_86 (args_cons rfl (args_cons rfl args_nil)) rfl (l1Flow_c ((mAt ms ((run - 1).toNat)).t.lab) ((mAt ms ((thing - 1).toNat)).t.lab) hl203 hl204 _) ?_
  rintro _ w205 ⟨rfl, hg206⟩
  have hb207 := low0 hb202 hg206
  refine wpo_assign (v := .bool (flow ((mAt ms ((run - 1).toNat)).t.lab) ((mAt ms ((thing - 1).toNat)).t.lab))) rfl rfl ?_
  refine wpo_nil ?_
  refine thn_n ?_
  refine wpf_ret ?_
  refine ⟨.bool (flow ((mAt ms ((run - 1).toNat)).t.lab) ((mAt ms ((thing - 1).toNat)).t.lab)), res1 rfl rfl, ?_, hb207⟩
  exact congrArg Value.bool touches_m
theorem l11Kind_c (q k : Int) (w : World) : CallsR Try.prog 118 #[.int .i64 q, .int .i64 k] w (fun v w' => v = .bool (kindFor q k) ∧ w.grownBy w' none) := by
 refine calls_of_wpf (n := 35) Try.func118 rfl Try.ntmps118 rfl ?_
 have hb0 := World.grownBy.refl w none
 refine wpf_seq_region ?_
 refine wpo_assign (v := .bool false) rfl rfl ?_
 refine wpo_nil ?_
 refine wpf_seq ?_
 refine wpf_seq_region ?_
 refine wpo_move (v := .int .i64 q) rfl rfl ?_
 refine wpo_nil ?_
 refine wpf_block ?_
 refine wpf_seq ?_
 refine wpf_seq_region ?_
 refine wpo_eql (q := decide (q = 1)) rfl rfl rfl rfl ?_
 refine wpo_assign (v := .bool (decide (q = 1))) rfl rfl ?_
 refine wpo_nil ?_
 refine wpf_cond rfl (fun h101 => ?_) (fun h101 => ?_)
 ·
  have h102 := of_decide_eq_true h101
  refine wpf_skip ?_
  refine thn_n ?_
  refine wpf_condt rfl h101 ?_
  refine wpf_seq_region ?_
  refine wpo_move (v := .int .i64 k) rfl rfl ?_
  refine wpo_eql (q := decide (k = 1)) rfl rfl rfl rfl ?_
  refine wpo_assign (v := .bool (decide (k = 1))) rfl rfl ?_
  refine wpo_nil ?_
  refine wpf_ret ?_
  refine blk_r ?_
  refine thn_r ?_
  refine ⟨.bool (decide (k = 1)), res1 rfl rfl, ?_, hb0⟩
  first | (simp [kindFor, h102]; done) | (unfold kindFor; repeat (first | rw [if_pos (by omega)] | rw [if_neg (by omega)]))
 ·
  have h103 := of_decide_eq_false h101
  refine wpf_region ?_
  refine wpo_eql (q := decide (q = 2)) rfl rfl rfl rfl ?_
  refine wpo_assign (v := .bool (decide (q = 2))) rfl rfl ?_
  refine wpo_nil ?_
  refine thn_n ?_
  refine wpf_cond rfl (fun h104 => ?_) (fun h104 => ?_)
  ·
   have h105 := of_decide_eq_true h104
   refine wpf_seq_region ?_
   refine wpo_move (v := .int .i64 k) rfl rfl ?_
   refine wpo_eql (q := decide (k = 1)) rfl rfl rfl rfl ?_
   refine wpo_assign (v := .bool (decide (k = 1))) rfl rfl ?_
   refine wpo_nil ?_
   refine wpf_ret ?_
   refine blk_r ?_
   refine thn_r ?_
   refine ⟨.bool (decide (k = 1)), res1 rfl rfl, ?_, hb0⟩
   first | (simp [kindFor, h103, h105]; done) | (unfold kindFor; repeat (first | rw [if_pos (by omega)] | rw [if_neg (by omega)]))
  ·
   have h106 := of_decide_eq_false h104
   refine wpf_seq ?_
   refine wpf_seq_region ?_
   refine wpo_eql (q := decide (q = 4)) rfl rfl rfl rfl ?_
   refine wpo_assign (v := .bool (decide (q = 4))) rfl rfl ?_
   refine wpo_nil ?_
   refine wpf_cond rfl (fun h107 => ?_) (fun h107 => ?_)
   ·
    have h108 := of_decide_eq_true h107
    refine wpf_skip ?_
    refine thn_n ?_
    refine wpf_condt rfl h107 ?_
    refine wpf_seq_region ?_
    refine wpo_move (v := .int .i64 k) rfl rfl ?_
    refine wpo_eql (q := decide (k = 2)) rfl rfl rfl rfl ?_
    refine wpo_assign (v := .bool (decide (k = 2))) rfl rfl ?_
    refine wpo_nil ?_
    refine wpf_ret ?_
    refine blk_r ?_
    refine thn_r ?_
    refine ⟨.bool (decide (k = 2)), res1 rfl rfl, ?_, hb0⟩
    first | (simp [kindFor, h103, h106, h108]; done) | (unfold kindFor; repeat (first | rw [if_pos (by omega)] | rw [if_neg (by omega)]))
   ·
    have h109 := of_decide_eq_false h107
    refine wpf_region ?_
    refine wpo_eql (q := decide (q = 5)) rfl rfl rfl rfl ?_
    refine wpo_assign (v := .bool (decide (q = 5))) rfl rfl ?_
    refine wpo_nil ?_
    refine thn_n ?_
    refine wpf_cond rfl (fun h110 => ?_) (fun h110 => ?_)
    ·
     have h111 := of_decide_eq_true h110
     refine wpf_seq_region ?_
     refine wpo_move (v := .int .i64 k) rfl rfl ?_
     refine wpo_eql (q := decide (k = 2)) rfl rfl rfl rfl ?_
     refine wpo_assign (v := .bool (decide (k = 2))) rfl rfl ?_
     refine wpo_nil ?_
     refine wpf_ret ?_
     refine blk_r ?_
     refine thn_r ?_
     refine ⟨.bool (decide (k = 2)), res1 rfl rfl, ?_, hb0⟩
     first | (simp [kindFor, h103, h106, h109, h111]; done) | (unfold kindFor; repeat (first | rw [if_pos (by omega)] | rw [if_neg (by omega)]))
    ·
     have h112 := of_decide_eq_false h110
     refine wpf_seq ?_
     refine wpf_seq_region ?_
     refine wpo_eql (q := decide (q = 6)) rfl rfl rfl rfl ?_
     refine wpo_assign (v := .bool (decide (q = 6))) rfl rfl ?_
     refine wpo_nil ?_
     refine wpf_cond rfl (fun h113 => ?_) (fun h113 => ?_)
     ·
      have h114 := of_decide_eq_true h113
      refine wpf_skip ?_
      refine thn_n ?_
      refine wpf_condt rfl h113 ?_
      refine wpf_seq_region ?_
      refine wpo_move (v := .int .i64 k) rfl rfl ?_
      refine wpo_eql (q := decide (k = 4)) rfl rfl rfl rfl ?_
      refine wpo_assign (v := .bool (decide (k = 4))) rfl rfl ?_
      refine wpo_nil ?_
      refine wpf_ret ?_
      refine blk_r ?_
      refine thn_r ?_
      refine ⟨.bool (decide (k = 4)), res1 rfl rfl, ?_, hb0⟩
      first | (simp [kindFor, h103, h106, h109, h112, h114]; done) | (unfold kindFor; repeat (first | rw [if_pos (by omega)] | rw [if_neg (by omega)]))
     ·
      have h115 := of_decide_eq_false h113
      refine wpf_region ?_
      refine wpo_eql (q := decide (q = 7)) rfl rfl rfl rfl ?_
      refine wpo_assign (v := .bool (decide (q = 7))) rfl rfl ?_
      refine wpo_nil ?_
      refine thn_n ?_
      refine wpf_cond rfl (fun h116 => ?_) (fun h116 => ?_)
      ·
       have h117 := of_decide_eq_true h116
       refine wpf_seq_region ?_
       refine wpo_move (v := .int .i64 k) rfl rfl ?_
       refine wpo_eql (q := decide (k = 4)) rfl rfl rfl rfl ?_
       refine wpo_assign (v := .bool (decide (k = 4))) rfl rfl ?_
       refine wpo_nil ?_
       refine wpf_ret ?_
       refine blk_r ?_
       refine thn_r ?_
       refine ⟨.bool (decide (k = 4)), res1 rfl rfl, ?_, hb0⟩
       first | (simp [kindFor, h103, h106, h109, h112, h115, h117]; done) | (unfold kindFor; repeat (first | rw [if_pos (by omega)] | rw [if_neg (by omega)]))
      ·
       have h118 := of_decide_eq_false h116
       refine wpf_seq_region ?_
       refine wpo_eql (q := decide (q = 9)) rfl rfl rfl rfl ?_
       refine wpo_assign (v := .bool (decide (q = 9))) rfl rfl ?_
       refine wpo_nil ?_
       refine wpf_cond rfl (fun h119 => ?_) (fun h119 => ?_)
       ·
        have h120 := of_decide_eq_true h119
        refine wpf_seq_region ?_
        refine wpo_move (v := .int .i64 k) rfl rfl ?_
        refine wpo_eql (q := decide (k = 5)) rfl rfl rfl rfl ?_
        refine wpo_assign (v := .bool (decide (k = 5))) rfl rfl ?_
        refine wpo_nil ?_
        refine wpf_ret ?_
        refine blk_r ?_
        refine thn_r ?_
        refine ⟨.bool (decide (k = 5)), res1 rfl rfl, ?_, hb0⟩
        first | (simp [kindFor, h103, h106, h109, h112, h115, h118, h120]; done) | (unfold kindFor; repeat (first | rw [if_pos (by omega)] | rw [if_neg (by omega)]))
       ·
        have h121 := of_decide_eq_false h119
        refine wpf_skip ?_
        refine blk_n ?_
        refine thn_n ?_
        refine wpf_seq_region_mid (fun f' w' => (f' 4 = .bool (((decide (k = 1)) || (decide (k = 2))) || (decide (k = 4)))) ∧ w = w') ?_ ?_
        ·
         refine wpo_move (v := .int .i64 k) rfl rfl ?_
         refine wpo_eql (q := decide (k = 1)) rfl rfl rfl rfl ?_
         refine wpo_move (v := .bool (decide (k = 1))) rfl rfl ?_
         rcases bcases (decide (k = 1)) with h122 | h122
         ·
          have h123 := of_decide_eq_true h122
          refine wpo_pass rfl rfl rfl h122 rfl ?_
          refine wpo_pass rfl rfl rfl h122 rfl ?_
          refine wpo_pickt (v := .bool true) rfl h122 rfl rfl ?_
          refine wpo_move (v := .bool true) rfl rfl ?_
          refine wpo_pass rfl rfl rfl rfl rfl ?_
          refine wpo_pass rfl rfl rfl rfl rfl ?_
          refine wpo_pickt (v := .bool true) rfl rfl rfl rfl ?_
          refine wpo_assign (v := .bool true) rfl rfl ?_
          exact wpo_nil ⟨(congrArg Value.bool (by first | (simp only [h101, h104, h107, h110, h113, h116, h119, h122, b0, b1, b2, b3, b4, b5, b6, b7, b8, b9]; done) | simp [h101, h104, h107, h110, h113, h116, h119, h122])), rfl⟩
         ·
          have h124 := of_decide_eq_false h122
          refine wpo_run rfl rfl rfl h122 ?_
          refine wpo_move (v := .int .i64 k) rfl rfl ?_
          refine wpo_run rfl rfl rfl h122 ?_
          refine wpo_eql (q := decide (k = 2)) rfl rfl rfl rfl ?_
          refine wpo_pickf (v := .bool (decide (k = 2))) rfl h122 rfl rfl ?_
          refine wpo_move (v := .bool (decide (k = 2))) rfl rfl ?_
          rcases bcases (decide (k = 2)) with h125 | h125
          ·
           have h126 := of_decide_eq_true h125
           refine wpo_pass rfl rfl rfl h125 rfl ?_
           refine wpo_pass rfl rfl rfl h125 rfl ?_
           refine wpo_pickt (v := .bool true) rfl h125 rfl rfl ?_
           refine wpo_assign (v := .bool true) rfl rfl ?_
           exact wpo_nil ⟨(congrArg Value.bool (by first | (simp only [h101, h104, h107, h110, h113, h116, h119, h122, h125, b0, b1, b2, b3, b4, b5, b6, b7, b8, b9]; done) | simp [h101, h104, h107, h110, h113, h116, h119, h122, h125])), rfl⟩
          ·
           have h127 := of_decide_eq_false h125
           refine wpo_run rfl rfl rfl h125 ?_
           refine wpo_move (v := .int .i64 k) rfl rfl ?_
           refine wpo_run rfl rfl rfl h125 ?_
           refine wpo_eql (q := decide (k = 4)) rfl rfl rfl rfl ?_
           refine wpo_pickf (v := .bool (decide (k = 4))) rfl h125 rfl rfl ?_
           refine wpo_assign (v := .bool (decide (k = 4))) rfl rfl ?_
           exact wpo_nil ⟨(congrArg Value.bool (by first | (simp only [h101, h104, h107, h110, h113, h116, h119, h122, h125, b0, b1, b2, b3, b4, b5, b6, b7, b8, b9]; done) | simp [h101, h104, h107, h110, h113, h116, h119, h122, h125])), rfl⟩
        ·
         rintro f128 w129 ⟨e130, rfl⟩
         refine wpf_ret ?_
         refine ⟨.bool (((decide (k = 1)) || (decide (k = 2))) || (decide (k = 4))), res1 rfl e130, ?_, hb0⟩
         first | (simp [kindFor, h103, h106, h109, h112, h115, h118, h121]; done) | (unfold kindFor; repeat (first | rw [if_pos (by omega)] | rw [if_neg (by omega)]))
theorem l3Live_c (r : Rt) (hr : -9223372036854775807 ≤ r.th) (w : World) (ms : List MTh) (a : Option Addr) (c : Nat) (ht : TabAt w a ms) (hlen : TabLen ms) (hn : ms.length ≤ 1048576) : CallsR Try.prog 120 #[.slice a ms.length c, .agg #[.int .i64 r.th, .int .i64 r.ve, .bool r.rd, .bool r.wr, .bool r.wk]] w (fun v w' => v = .bool (live (tabT ms) r) ∧ w.grownBy w' none) := by
 refine calls_of_wpf (n := 22) Try.func120 rfl Try.ntmps120 rfl ?_
 have hb0 := World.grownBy.refl w none
 refine wpf_seq_region ?_
 refine wpo_box (v := .agg #[.int .i64 r.th, .int .i64 r.ve, .bool r.rd, .bool r.wr, .bool r.wk]) (cs := #[.int .i64 r.th, .int .i64 r.ve, .bool r.rd, .bool r.wr, .bool r.wk]) rfl rfl rfl ?_
 intro B101 w102 hN103
 have hlB101 := hN_ge hN103 hb0
 have hb104 := low0 hb0 hN103.grw
 refine wpo_assign (v := .bool false) rfl rfl ?_
 refine wpo_nil ?_
 refine wpf_seq_mid (fun f' w' => (f' 4 = .bool (inR r.th 1 (ms.length : Int) && (decide ((mAt ms ((r.th - 1).toNat)).t.ve = r.ve)))) ∧ w102.grownBy w' none) ?_ ?_
 ·
  rcases bcases (inR r.th 1 (ms.length : Int)) with h124 | h124
  ·
   have hr125 := inR_iff.1 h124
   obtain ⟨b145, q146, o147, ha148, ho149, hr150⟩ := SlAt.at (TabAt.low ht hb104).1 (map_get (mAt_get (show (r.th - 1).toNat < ms.length by omega)))
   have hle151 := TabLen.at hlen (mAt_get (show (r.th - 1).toNat < ms.length by omega))
   refine wpf_draw (m := 15) (vals := [(5, .pointer (some ⟨B101, 0, none⟩)), (6, .int .i64 r.th), (7, .slice a ms.length c), (8, .int .i64 (ms.length : Int)), (9, .bool (inR r.th 1 (ms.length : Int))), (10, .bool (inR r.th 1 (ms.length : Int))), (11, .slice a ms.length c), (12, .pointer (some ⟨B101, 0, none⟩)), (13, .int .i64 r.th), (14, .int .i64 (r.th - 1)), (15, .pointer (some ⟨b145, o147, none⟩)), (16, .pointer (some ⟨b145, o147 + 3, none⟩)), (17, .int .i64 ((mAt ms ((r.th - 1).toNat)).t.ve)), (18, .pointer (some ⟨B101, 1, none⟩)), (19, .int .i64 r.ve)]) (fun w' => w102.grownBy w' none) mixed_ (by kernel_rfl) (grown_drew _) ?_ ?_
   ·
    refine yll_cons rfl (fun w157 hi158 => ?_) ?_
    ·
     have hb159 := low0 hb104 hi158
     refine wpo_fieldAddr (o' := 0) fo_29_0 rfl rfl rfl ?_
     exact wpo_nil ⟨rfl, hi158⟩
    refine yll_cons rfl (fun w160 hi161 => ?_) ?_
    ·
     have hb162 := low0 hb104 hi161
     have k163 := (hN103.blk.grown0 hi161)
     refine wpo_load1 (v := .int .i64 r.th) ot_3 rfl (k163.cell rfl) rfl ?_
     exact wpo_nil ⟨rfl, hi161⟩
    refine yll_cons rfl (fun w164 hi165 => ?_) ?_
    ·
     have hb166 := low0 hb104 hi165
     refine wpo_move (v := .slice a ms.length c) rfl rfl ?_
     exact wpo_nil ⟨rfl, hi165⟩
    refine yll_cons rfl (fun w167 hi168 => ?_) ?_
    ·
     have hb169 := low0 hb104 hi168
     refine wpo_len (by kernel_rfl) rfl rfl ?_
     exact wpo_nil ⟨rfl, hi168⟩
    refine yll_cons rfl (fun w170 hi171 => ?_) ?_
    ·
     have hb172 := low0 hb104 hi171
     refine wpo_call (vs := [.int .i64 r.th, .int .i64 1, .int .i64 (ms.length : Int)]) gf_85 (args_cons rfl (args_cons rfl (args_cons rfl args_nil))) rfl (l6In_c r.th 1 (ms.length : Int) _) ?_
     rintro _ w173 ⟨rfl, hg174⟩
     have hb175 := low0 hb172 hg174
     exact wpo_nil ⟨rfl, (grown_trans hi171 hg174)⟩
    refine yll_cons rfl (fun w176 hi177 => ?_) ?_
    ·
     have hb178 := low0 hb104 hi177
     refine wpo_move (v := .bool (inR r.th 1 (ms.length : Int))) rfl rfl ?_
     exact wpo_nil ⟨rfl, hi177⟩
    refine yll_cons rfl (fun w179 hi180 => ?_) ?_
    ·
     have hb181 := low0 hb104 hi180
     refine wpo_run rfl rfl rfl h124 ?_
     refine wpo_move (v := .slice a ms.length c) rfl rfl ?_
     exact wpo_nil ⟨rfl, hi180⟩
    refine yll_cons rfl (fun w182 hi183 => ?_) ?_
    ·
     have hb184 := low0 hb104 hi183
     refine wpo_run rfl rfl rfl h124 ?_
     refine wpo_fieldAddr (o' := 0) fo_29_0 rfl rfl rfl ?_
     exact wpo_nil ⟨rfl, hi183⟩
    refine yll_cons rfl (fun w185 hi186 => ?_) ?_
    ·
     have hb187 := low0 hb104 hi186
     refine wpo_run rfl rfl rfl h124 ?_
     have k188 := (hN103.blk.grown0 hi186)
     refine wpo_load1 (v := .int .i64 r.th) ot_3 rfl (k188.cell rfl) rfl ?_
     exact wpo_nil ⟨rfl, hi186⟩
    refine yll_cons rfl (fun w189 hi190 => ?_) ?_
    ·
     have hb191 := low0 hb104 hi190
     refine wpo_run rfl rfl rfl h124 ?_
     refine wpo_sub (c := r.th - 1) rfl rfl (by omega) (by omega) (by omega) rfl ?_
     exact wpo_nil ⟨rfl, hi190⟩
    refine yll_cons rfl (fun w192 hi193 => ?_) ?_
    ·
     have hb194 := low0 hb104 hi193
     refine wpo_run rfl rfl rfl h124 ?_
     refine wpo_indexE es_54 rfl rfl ha148 ho149 (by omega) (by omega) rfl ?_
     exact wpo_nil ⟨rfl, hi193⟩
    refine yll_cons rfl (fun w195 hi196 => ?_) ?_
    ·
     have hb197 := low0 hb104 hi196
     refine wpo_run rfl rfl rfl h124 ?_
     refine wpo_fieldAddr (o' := o147 + 3) fo_45_2 rfl rfl rfl ?_
     exact wpo_nil ⟨rfl, hi196⟩
    refine yll_cons rfl (fun w198 hi199 => ?_) ?_
    ·
     have hb200 := low0 hb104 hi199
     refine wpo_run rfl rfl rfl h124 ?_
     refine wpo_load1 (v := .int .i64 ((mAt ms ((r.th - 1).toNat)).t.ve)) ot_3 rfl ((range_low hr150 hi199) 3 _ rfl) rfl ?_
     exact wpo_nil ⟨rfl, hi199⟩
    refine yll_cons rfl (fun w201 hi202 => ?_) ?_
    ·
     have hb203 := low0 hb104 hi202
     refine wpo_run rfl rfl rfl h124 ?_
     refine wpo_fieldAddr (o' := 1) fo_29_1 rfl rfl rfl ?_
     exact wpo_nil ⟨rfl, hi202⟩
    refine yll_cons rfl (fun w204 hi205 => ?_) ?_
    ·
     have hb206 := low0 hb104 hi205
     refine wpo_run rfl rfl rfl h124 ?_
     have k207 := (hN103.blk.grown0 hi205)
     refine wpo_load1 (v := .int .i64 r.ve) ot_3 rfl (k207.cell rfl) rfl ?_
     exact wpo_nil ⟨rfl, hi205⟩
    exact yll_nil
   ·
    intro w208 hi209
    have hb210 := low0 hb104 hi209
    refine wpo_run rfl rfl rfl h124 ?_
    refine wpo_eql (q := decide ((mAt ms ((r.th - 1).toNat)).t.ve = r.ve)) rfl rfl rfl rfl ?_
    refine wpo_pickt (v := .bool (decide ((mAt ms ((r.th - 1).toNat)).t.ve = r.ve))) rfl h124 rfl rfl ?_
    refine wpo_assign (v := .bool (decide ((mAt ms ((r.th - 1).toNat)).t.ve = r.ve))) rfl rfl ?_
    exact wpo_nil (thn_n ⟨(congrArg Value.bool (by first | (simp only [h124, b0, b1, b2, b3, b4, b5, b6, b7, b8, b9]; done) | simp [h124])), hi209⟩)
  ·
   refine wpf_draw (m := 15) (vals := [(5, .pointer (some ⟨B101, 0, none⟩)), (6, .int .i64 r.th), (7, .slice a ms.length c), (8, .int .i64 (ms.length : Int)), (9, .bool (inR r.th 1 (ms.length : Int))), (10, .bool (inR r.th 1 (ms.length : Int))), (11, undef), (12, undef), (13, undef), (14, undef), (15, undef), (16, undef), (17, undef), (18, undef), (19, undef)]) (fun w' => w102.grownBy w' none) mixed_ (by kernel_rfl) (grown_drew _) ?_ ?_
   ·
    refine yll_cons rfl (fun w220 hi221 => ?_) ?_
    ·
     have hb222 := low0 hb104 hi221
     refine wpo_fieldAddr (o' := 0) fo_29_0 rfl rfl rfl ?_
     exact wpo_nil ⟨rfl, hi221⟩
    refine yll_cons rfl (fun w223 hi224 => ?_) ?_
    ·
     have hb225 := low0 hb104 hi224
     have k226 := (hN103.blk.grown0 hi224)
     refine wpo_load1 (v := .int .i64 r.th) ot_3 rfl (k226.cell rfl) rfl ?_
     exact wpo_nil ⟨rfl, hi224⟩
    refine yll_cons rfl (fun w227 hi228 => ?_) ?_
    ·
     have hb229 := low0 hb104 hi228
     refine wpo_move (v := .slice a ms.length c) rfl rfl ?_
     exact wpo_nil ⟨rfl, hi228⟩
    refine yll_cons rfl (fun w230 hi231 => ?_) ?_
    ·
     have hb232 := low0 hb104 hi231
     refine wpo_len (by kernel_rfl) rfl rfl ?_
     exact wpo_nil ⟨rfl, hi231⟩
    refine yll_cons rfl (fun w233 hi234 => ?_) ?_
    ·
     have hb235 := low0 hb104 hi234
     refine wpo_call (vs := [.int .i64 r.th, .int .i64 1, .int .i64 (ms.length : Int)]) gf_85 (args_cons rfl (args_cons rfl (args_cons rfl args_nil))) rfl (l6In_c r.th 1 (ms.length : Int) _) ?_
     rintro _ w236 ⟨rfl, hg237⟩
     have hb238 := low0 hb235 hg237
     exact wpo_nil ⟨rfl, (grown_trans hi234 hg237)⟩
    refine yll_cons rfl (fun w239 hi240 => ?_) ?_
    ·
     have hb241 := low0 hb104 hi240
     refine wpo_move (v := .bool (inR r.th 1 (ms.length : Int))) rfl rfl ?_
     exact wpo_nil ⟨rfl, hi240⟩
    refine yll_cons rfl (fun w242 hi243 => ?_) ?_
    ·
     have hb244 := low0 hb104 hi243
     refine wpo_pass rfl rfl rfl h124 rfl ?_
     exact wpo_nil ⟨rfl, hi243⟩
    refine yll_cons rfl (fun w245 hi246 => ?_) ?_
    ·
     have hb247 := low0 hb104 hi246
     refine wpo_pass rfl rfl rfl h124 rfl ?_
     exact wpo_nil ⟨rfl, hi246⟩
    refine yll_cons rfl (fun w248 hi249 => ?_) ?_
    ·
     have hb250 := low0 hb104 hi249
     refine wpo_pass rfl rfl rfl h124 rfl ?_
     exact wpo_nil ⟨rfl, hi249⟩
    refine yll_cons rfl (fun w251 hi252 => ?_) ?_
    ·
     have hb253 := low0 hb104 hi252
     refine wpo_pass rfl rfl rfl h124 rfl ?_
     exact wpo_nil ⟨rfl, hi252⟩
    refine yll_cons rfl (fun w254 hi255 => ?_) ?_
    ·
     have hb256 := low0 hb104 hi255
     refine wpo_pass rfl rfl rfl h124 rfl ?_
     exact wpo_nil ⟨rfl, hi255⟩
    refine yll_cons rfl (fun w257 hi258 => ?_) ?_
    ·
     have hb259 := low0 hb104 hi258
     refine wpo_pass rfl rfl rfl h124 rfl ?_
     exact wpo_nil ⟨rfl, hi258⟩
    refine yll_cons rfl (fun w260 hi261 => ?_) ?_
    ·
     have hb262 := low0 hb104 hi261
     refine wpo_pass rfl rfl rfl h124 rfl ?_
     exact wpo_nil ⟨rfl, hi261⟩
    refine yll_cons rfl (fun w263 hi264 => ?_) ?_
    ·
     have hb265 := low0 hb104 hi264
     refine wpo_pass rfl rfl rfl h124 rfl ?_
     exact wpo_nil ⟨rfl, hi264⟩
    refine yll_cons rfl (fun w266 hi267 => ?_) ?_
    ·
     have hb268 := low0 hb104 hi267
     refine wpo_pass rfl rfl rfl h124 rfl ?_
     exact wpo_nil ⟨rfl, hi267⟩
    exact yll_nil
   ·
    intro w269 hi270
    have hb271 := low0 hb104 hi270
    refine wpo_pass rfl rfl rfl h124 rfl ?_
    refine wpo_pickf (v := .bool false) rfl h124 rfl rfl ?_
    refine wpo_assign (v := .bool false) rfl rfl ?_
    exact wpo_nil (thn_n ⟨(congrArg Value.bool (by first | (simp only [h124, b0, b1, b2, b3, b4, b5, b6, b7, b8, b9]; done) | simp [h124])), hi270⟩)
 ·
  rintro f272 w273 ⟨e274, hg275⟩
  have hb276 := low0 hb104 hg275
  refine wpf_ret ?_
  refine ⟨.bool (inR r.th 1 (ms.length : Int) && (decide ((mAt ms ((r.th - 1).toNat)).t.ve = r.ve))), res1 rfl e274, ?_, hb276⟩
  exact congrArg Value.bool live_m
theorem l71Run_c (p : Int) (hp : 0 ≤ p ∧ p ≤ 999999990000) (lo R : Nat) (bs : List Int) (a : Option Addr) (c : Nat) (w : World) (hR : Blk w R 121 #[.slice a bs.length c, .int .i64 p]) (hlo : lo ≤ R) (hs : SlLt lo w a 1 (bs.map bcell)) (hb : ∀ b ∈ bs, 0 ≤ b ∧ b ≤ 255) (hn : bs.length ≤ 1048576) (ms : List MTh) (ta : Option Addr) (tc tlo : Nat) (hG : TabG tlo w ta ms) (hRl : R < tlo) (hlen : TabLen ms) (hmn : 1 ≤ ms.length ∧ ms.length ≤ 8) : CallsR Try.prog 117 #[.pointer (some ⟨R, 0, none⟩), .slice ta ms.length tc] w (fun v w' => ∃ (k : Int) (p' : Int), v = .int .i64 k ∧ (1 ≤ k ∧ k ≤ (ms.length : Int)) ∧ p ≤ p' ∧ p' ≤ p + 20 ∧ Blk w' R 121 #[.slice a bs.length c, .int .i64 p'] ∧ w.grownBy w' (some R)) := by
 refine calls_of_wpf (n := 34) Try.func117 rfl Try.ntmps117 rfl ?_
 have hb0 := World.grownBy.refl w (some R)
 have hRlt := hR.lt
 obtain ⟨hi, hhi⟩ : ∃ n, n = w.heap.size := ⟨_, rfl⟩
 have hTH := TabG.hi hG
 rw [← hhi] at hTH
 refine wpf_seq_region ?_
 refine wpo_assign (v := .int .i64 0) rfl rfl ?_
 refine wpo_nil ?_
 refine wpf_seq ?_
 refine wpf_seq_region ?_
 refine wpo_assign (v := .int .i64 0) rfl rfl ?_
 refine wpo_nil ?_
 refine wpf_block ?_
 refine wpf_loopN (fun mm f' w' => ∃ (i : Nat) (p1 : Int), mm = 6 - i ∧ i ≤ 6 ∧ (p ≤ p1 ∧ p1 ≤ p + 2 * (i : Int)) ∧ TabG tlo w' ta ms ∧ hi ≤ w'.heap.size ∧ f' 5 = .int .i64 (i : Int) ∧ f' 0 = .pointer (some ⟨R, 0, none⟩) ∧ f' 1 = .slice ta ms.length tc ∧ w.grownBy w' (some R) ∧ Blk w' R 121 #[.slice a bs.length c, .int .i64 p1]) (6 - 0) ⟨0, p, rfl, (Nat.zero_le _), (by omega), hG, (Nat.le_of_eq hhi), rfl, rfl, rfl, hb0, hR⟩ ?_
 rintro mm f101 w102 ⟨i, p1, hm104, hi6, hpp, hGl, hhs, e105, e106, e107, hb103, k108⟩
 refine wpf_seq ?_
 refine wpf_seq_region ?_
 refine wpo_move (v := .int .i64 (i : Int)) e105 rfl ?_
 refine wpo_lss (q := decide ((i : Int) < 6)) rfl rfl rfl rfl ?_
 refine wpo_move (v := .bool (decide ((i : Int) < 6))) rfl rfl ?_
 rcases bcases (decide ((i : Int) < 6)) with h116 | h116
 ·
  have h117 := of_decide_eq_true h116
  refine wpo_run rfl rfl rfl h116 ?_
  refine wpo_move (v := .pointer (some ⟨R, 0, none⟩)) e106 rfl ?_
  refine wpo_run rfl rfl rfl h116 ?_
  refine wpo_call (vs := [.pointer (some ⟨R, 0, none⟩), .int .i64 24]) gf_60 (args_cons rfl (args_cons rfl args_nil)) rfl (pick_c p1 24 (by omega) _ R bs _ _ _ k108 (by omega) (SlLt.low1 hs hb103 hlo) (by first | exact hb | exact fun b h => hb b (List.mem_of_mem_take h)) (by first | omega | (rw [List.length_take]; omega))) ?_
  rintro _ w123 ⟨k118, rfl, hk119, hk120, kR121, hg122⟩
  have hb124 := grown_trans hb103 hg122
  refine wpo_run rfl rfl rfl h116 ?_
  refine wpo_gtr (q := decide (0 < k118)) rfl rfl rfl rfl ?_
  refine wpo_pickt (v := .bool (decide (0 < k118))) rfl h116 rfl rfl ?_
  refine wpo_nil ?_
  refine wpf_cond rfl (fun h125 => ?_) (fun h125 => ?_)
  ·
   have h126 := of_decide_eq_true h125
   refine wpf_skip ?_
   refine thn_n ?_
   refine wpf_seq ?_
   refine wpf_block ?_
   refine wpf_seq_region ?_
   refine wpo_move (v := .pointer (some ⟨R, 0, none⟩)) e106 rfl ?_
   refine wpo_move (v := .slice ta ms.length tc) e107 rfl ?_
   refine wpo_len (by kernel_rfl) rfl rfl ?_
   refine wpo_call (vs := [.pointer (some ⟨R, 0, none⟩), .int .i64 (ms.length : Int)]) gf_60 (args_cons rfl (args_cons rfl args_nil)) rfl (pick_c (p1 + 1) (ms.length : Int) (by omega) _ R bs _ _ _ kR121 (by omega) (SlLt.low1 hs hb124 hlo) (by first | exact hb | exact fun b h => hb b (List.mem_of_mem_take h)) (by first | omega | (rw [List.length_take]; omega))) ?_
   rintro _ w132 ⟨k127, rfl, hk128, hk129, kR130, hg131⟩
   have hb133 := grown_trans hb124 hg131
   refine wpo_add (c := 1 + k127) rfl rfl (by omega) (by omega) (by omega) rfl ?_
   refine wpo_assign (v := .int .i64 (1 + k127)) rfl rfl ?_
   refine wpo_nil ?_
   refine wpf_seq_region ?_
   refine wpo_move (v := .slice ta ms.length tc) e107 rfl ?_
   refine wpo_move (v := .int .i64 (1 + k127)) rfl rfl ?_
   refine wpo_sub (c := (1 + k127) - 1) rfl rfl (by omega) (by omega) (by omega) rfl ?_
   have hTG142 := (TabG.lt (TabG.lt hGl hg122 (by omega)) hg131 (by omega))
   obtain ⟨b136, q137, o138, ha139, ho140, hr141⟩ := SlAt.at (TabG.at hTG142).1 (map_get (mAt_get (show ((1 + k127) - 1).toNat < ms.length by omega)))
   have hle143 := TabLen.at hlen (mAt_get (show ((1 + k127) - 1).toNat < ms.length by omega))
   refine wpo_indexE es_54 rfl rfl ha139 ho140 (by omega) (by omega) rfl ?_
   refine wpo_fieldAddr (o' := o138) fo_45_0 rfl rfl rfl ?_
   refine wpo_load1 (v := .int .i64 ((mAt ms (((1 + k127) - 1).toNat)).t.kind)) ot_3 rfl (hr141 0 _ rfl) rfl ?_
   refine wpo_eql (q := decide ((mAt ms (((1 + k127) - 1).toNat)).t.kind = 3)) rfl rfl rfl rfl ?_
   refine wpo_nil ?_
   refine wpf_cond rfl (fun h144 => ?_) (fun h144 => ?_)
   ·
    have h145 := of_decide_eq_true h144
    refine wpf_seq_region ?_
    refine wpo_move (v := .int .i64 (1 + k127)) rfl rfl ?_
    refine wpo_assign (v := .int .i64 (1 + k127)) rfl rfl ?_
    refine wpo_nil ?_
    refine wpf_ret ?_
    refine blk_r ?_
    refine thn_r ?_
    refine thn_r ?_
    refine blk_r ?_
    refine thn_r ?_
    refine ⟨.int .i64 (1 + k127), res1 rfl rfl, (1 + k127), (p1 + 1 + 1), rfl, by omega, by omega, by omega, kR130, hb133⟩
   ·
    have h146 := of_decide_eq_false h144
    refine wpf_skip ?_
    refine blk_n ?_
    refine thn_n ?_
    refine wpf_region ?_
    refine wpo_move (v := .int .i64 (i : Int)) e105 rfl ?_
    refine wpo_add (c := (i : Int) + 1) rfl rfl (by omega) (by omega) (by omega) rfl ?_
    refine wpo_assign (v := .int .i64 ((i : Int) + 1)) rfl rfl ?_
    refine wpo_nil ?_
    refine thn_n ?_
    exact ⟨6 - (i + 1), by omega, (i + 1), (p1 + 1 + 1), rfl, (by omega), (by omega), hTG142, (Nat.le_trans (Nat.le_trans hhs hg122.size) hg131.size), rfl, e106, e107, hb133, kR130⟩
  ·
   have h147 := of_decide_eq_false h125
   refine wpf_exit ?_
   refine thn_e ?_
   refine thn_e ?_
   refine blk_e ?_
   refine thn_n ?_
   refine wpf_seq_region ?_
   refine wpo_move (v := .pointer (some ⟨R, 0, none⟩)) e106 rfl ?_
   refine wpo_move (v := .slice ta ms.length tc) e107 rfl ?_
   refine wpo_len (by kernel_rfl) rfl rfl ?_
   refine wpo_call (vs := [.pointer (some ⟨R, 0, none⟩), .int .i64 (ms.length : Int)]) gf_60 (args_cons rfl (args_cons rfl args_nil)) rfl (pick_c (p1 + 1) (ms.length : Int) (by omega) _ R bs _ _ _ kR121 (by omega) (SlLt.low1 hs hb124 hlo) (by first | exact hb | exact fun b h => hb b (List.mem_of_mem_take h)) (by first | omega | (rw [List.length_take]; omega))) ?_
   rintro _ w153 ⟨k148, rfl, hk149, hk150, kR151, hg152⟩
   have hb154 := grown_trans hb124 hg152
   refine wpo_add (c := 1 + k148) rfl rfl (by omega) (by omega) (by omega) rfl ?_
   refine wpo_assign (v := .int .i64 (1 + k148)) rfl rfl ?_
   refine wpo_nil ?_
   refine wpf_ret ?_
   refine ⟨.int .i64 (1 + k148), res1 rfl rfl, (1 + k148), (p1 + 1 + 1), rfl, by omega, by omega, by omega, kR151, hb154⟩
 ·
  have h155 := of_decide_eq_false h116
  iterate 3 refine wpo_pass rfl rfl rfl h116 rfl ?_
  refine wpo_pickf (v := .bool false) rfl h116 rfl rfl ?_
  refine wpo_nil ?_
  refine wpf_condf rfl rfl ?_
  refine wpf_exit ?_
  refine thn_e ?_
  refine thn_e ?_
  refine blk_e ?_
  refine thn_n ?_
  refine wpf_seq_region ?_
  refine wpo_move (v := .pointer (some ⟨R, 0, none⟩)) e106 rfl ?_
  refine wpo_move (v := .slice ta ms.length tc) e107 rfl ?_
  refine wpo_len (by kernel_rfl) rfl rfl ?_
  refine wpo_call (vs := [.pointer (some ⟨R, 0, none⟩), .int .i64 (ms.length : Int)]) gf_60 (args_cons rfl (args_cons rfl args_nil)) rfl (pick_c p1 (ms.length : Int) (by omega) _ R bs _ _ _ k108 (by omega) (SlLt.low1 hs hb103 hlo) (by first | exact hb | exact fun b h => hb b (List.mem_of_mem_take h)) (by first | omega | (rw [List.length_take]; omega))) ?_
  rintro _ w161 ⟨k156, rfl, hk157, hk158, kR159, hg160⟩
  have hb162 := grown_trans hb103 hg160
  refine wpo_add (c := 1 + k156) rfl rfl (by omega) (by omega) (by omega) rfl ?_
  refine wpo_assign (v := .int .i64 (1 + k156)) rfl rfl ?_
  refine wpo_nil ?_
  refine wpf_ret ?_
  refine ⟨.int .i64 (1 + k156), res1 rfl rfl, (1 + k156), (p1 + 1), rfl, by omega, by omega, by omega, kR159, hb162⟩
theorem l71Call_c (p : Int) (hp : 0 ≤ p ∧ p ≤ 999999980000) (lo R : Nat) (bs : List Int) (a : Option Addr) (c : Nat) (w : World) (hR : Blk w R 121 #[.slice a bs.length c, .int .i64 p]) (hlo : lo ≤ R) (hs : SlLt lo w a 1 (bs.map bcell)) (hb : ∀ b ∈ bs, 0 ≤ b ∧ b ≤ 255) (hn : bs.length ≤ 1048576) (ms : List MTh) (ta : Option Addr) (tc tlo : Nat) (hG : TabG tlo w ta ms) (hRl : R < tlo) (hlen : TabLen ms) (hmn : 1 ≤ ms.length ∧ ms.length ≤ 8) : CallsR Try.prog 111 #[.pointer (some ⟨R, 0, none⟩), .slice ta ms.length tc] w (fun v w' => ∃ (q : Cl) (p' : Int), v = .agg #[.int .i64 q.kind, .int .i64 q.run, .int .i64 q.a, .int .i64 q.b, .int .i64 q.n] ∧ ((0 ≤ q.kind ∧ q.kind ≤ 10) ∧ (1 ≤ q.run ∧ q.run ≤ (ms.length : Int)) ∧ (-1 ≤ q.a ∧ q.a ≤ 4) ∧ (0 ≤ q.b ∧ q.b ≤ 3) ∧ -1 ≤ q.n ∧ q.n ≤ 100) ∧ p ≤ p' ∧ p' ≤ p + 60 ∧ Blk w' R 121 #[.slice a bs.length c, .int .i64 p'] ∧ w.grownBy w' (some R)) := by
 refine calls_of_wpf (n := 114) Try.func111 rfl Try.ntmps111 rfl ?_
 have hb0 := World.grownBy.refl w (some R)
 have hRlt := hR.lt
 obtain ⟨hi, hhi⟩ : ∃ n, n = w.heap.size := ⟨_, rfl⟩
 have hTH := TabG.hi hG
 rw [← hhi] at hTH
 refine wpf_seq_region ?_
 refine wpo_alloc (cs := #[.int .i64 0, .int .i64 0, .int .i64 0, .int .i64 0, .int .i64 0]) zt_76 rfl rfl ?_
 intro B101 w102 hN103
 have hlB101 := hN_ge hN103 hb0
 have hhiB101 : hi ≤ B101 := Nat.le_trans (Nat.le_of_eq hhi) (Nat.le_of_eq hN103.eq.symm)
 have lt_R_B101 := hN_gtl hN103 (hR).lt
 have hb104 := low0 hb0 hN103.grw
 refine wpo_nil ?_
 refine wpf_seq_region ?_
 refine wpo_move (v := .pointer (some ⟨R, 0, none⟩)) rfl rfl ?_
 have k105 := (hR.grown0 hN103.grw)
 refine wpo_call (vs := [.pointer (some ⟨R, 0, none⟩), .int .i64 9]) gf_60 (args_cons rfl (args_cons rfl args_nil)) rfl (pick_c p 9 (by omega) _ R bs _ _ _ k105 (by omega) (SlLt.low1 hs hb104 hlo) (by first | exact hb | exact fun b h => hb b (List.mem_of_mem_take h)) (by first | omega | (rw [List.length_take]; omega))) ?_
 rintro _ w111 ⟨k106, rfl, hk107, hk108, kR109, hg110⟩
 have hb112 := grown_trans hb104 hg110
 refine wpo_add (c := 1 + k106) rfl rfl (by omega) (by omega) (by omega) rfl ?_
 refine wpo_move (v := .pointer (some ⟨R, 0, none⟩)) rfl rfl ?_
 refine wpo_move (v := .slice ta ms.length tc) rfl rfl ?_
 have hTG113 := (TabG.lt (TabG.low hG hN103.grw) hg110 (by omega))
 refine wpo_call (vs := [.pointer (some ⟨R, 0, none⟩), .slice ta ms.length tc]) gf_117 (args_cons rfl (args_cons rfl args_nil)) rfl (l71Run_c (p + 1) (by omega) _ R bs _ _ _ kR109 (by omega) (SlLt.low1 hs hb112 hlo) (by first | exact hb | exact fun b h => hb b (List.mem_of_mem_take h)) (by first | omega | (rw [List.length_take]; omega)) ms _ _ _ hTG113 (by omega) hlen (by omega)) ?_
 rintro _ w120 ⟨k114, p115, rfl, hq121, hp116, hp117, kR118, hg119⟩
 have hb122 := grown_trans hb112 hg119
 refine wpo_move (v := .pointer (some ⟨R, 0, none⟩)) rfl rfl ?_
 refine wpo_call (vs := [.pointer (some ⟨R, 0, none⟩), .int .i64 4]) gf_60 (args_cons rfl (args_cons rfl args_nil)) rfl (pick_c p115 4 (by omega) _ R bs _ _ _ kR118 (by omega) (SlLt.low1 hs hb122 hlo) (by first | exact hb | exact fun b h => hb b (List.mem_of_mem_take h)) (by first | omega | (rw [List.length_take]; omega))) ?_
 rintro _ w128 ⟨k123, rfl, hk124, hk125, kR126, hg127⟩
 have hb129 := grown_trans hb122 hg127
 refine wpo_move (v := .pointer (some ⟨R, 0, none⟩)) rfl rfl ?_
 refine wpo_call (vs := [.pointer (some ⟨R, 0, none⟩), .int .i64 4]) gf_60 (args_cons rfl (args_cons rfl args_nil)) rfl (pick_c (p115 + 1) 4 (by omega) _ R bs _ _ _ kR126 (by omega) (SlLt.low1 hs hb129 hlo) (by first | exact hb | exact fun b h => hb b (List.mem_of_mem_take h)) (by first | omega | (rw [List.length_take]; omega))) ?_
 rintro _ w135 ⟨k130, rfl, hk131, hk132, kR133, hg134⟩
 have hb136 := grown_trans hb129 hg134
 refine wpo_move (v := .pointer (some ⟨R, 0, none⟩)) rfl rfl ?_
 refine wpo_call (vs := [.pointer (some ⟨R, 0, none⟩), .int .i64 20]) gf_60 (args_cons rfl (args_cons rfl args_nil)) rfl (pick_c (p115 + 1 + 1) 20 (by omega) _ R bs _ _ _ kR133 (by omega) (SlLt.low1 hs hb136 hlo) (by first | exact hb | exact fun b h => hb b (List.mem_of_mem_take h)) (by first | omega | (rw [List.length_take]; omega))) ?_
 rintro _ w142 ⟨k137, rfl, hk138, hk139, kR140, hg141⟩
 have hb143 := grown_trans hb136 hg141
 refine wpo_build (ps := [(0, .int .i64 (1 + k106)), (1, .int .i64 k114), (2, .int .i64 k123), (3, .int .i64 k130), (4, .int .i64 k137)]) (v := .agg #[.int .i64 (1 + k106), .int .i64 k114, .int .i64 k123, .int .i64 k130, .int .i64 k137]) (parts_cons rfl (parts_cons rfl (parts_cons rfl (parts_cons rfl (parts_cons rfl parts_nil))))) (by kernel_rfl) rfl ?_
 refine wpo_alloc (cs := #[.int .i64 0, .int .i64 0, .int .i64 0, .int .i64 0, .int .i64 0]) zt_76 rfl rfl ?_
 intro B144 w145 hN146
 have hlB144 := hN_ge hN146 hb143
 have hhiB144 : hi ≤ B144 := Nat.le_trans (Nat.le_trans (Nat.le_trans (Nat.le_trans (Nat.le_trans (Nat.le_trans (Nat.le_trans (Nat.le_of_eq hhi) hN103.grw.size) hg110.size) hg119.size) hg127.size) hg134.size) hg141.size) (Nat.le_of_eq hN146.eq.symm)
 have lt_R_B144 := hN_gtl hN146 (kR140).lt
 have k147 := (((((hN103.blk.grown hg110 (some_ne (by omega))).grown hg119 (some_ne (by omega))).grown hg127 (some_ne (by omega))).grown hg134 (some_ne (by omega))).grown hg141 (some_ne (by omega)))
 have lt_B101_B144 := hN_gtl hN146 (k147).lt
 have hb148 := low0 hb143 hN146.grw
 refine wpo_storen (vs := [.int .i64 (1 + k106), .int .i64 k114, .int .i64 k123, .int .i64 k130, .int .i64 k137]) (cs' := #[.int .i64 (1 + k106), .int .i64 k114, .int .i64 k123, .int .i64 k130, .int .i64 k137]) rt_76 rfl rfl rfl (by simp [Value.oneCell']) hN146.blk (Nat.le_of_ble_eq_true rfl) rfl ?_
 intro w149 hS150
 have hb151 := low1 hb148 hS150.grw (by omega)
 refine wpo_nil ?_
 refine wpf_seq ?_
 refine wpf_seq_region ?_
 refine wpo_assign (v := .int .i64 0) rfl rfl ?_
 refine wpo_nil ?_
 refine wpf_block ?_
 have hTG152 := (TabG.ge (TabG.low (TabG.lt (TabG.lt (TabG.lt (TabG.lt hTG113 hg119 (by omega)) hg127 (by omega)) hg134 (by omega)) hg141 (by omega)) hN146.grw) hS150.grw hTH (by omega))
 have k153 := ((k147.grown0 hN146.grw).grown hS150.grw (some_ne (by omega)))
 have k154 := ((kR140.grown0 hN146.grw).grown hS150.grw (some_ne (by omega)))
 refine wpf_loopN (fun mm f' w' => ∃ (i : Nat) (p1 : Int) (kk : Int) (aa : Int), mm = 6 - i ∧ i ≤ 6 ∧ (p115 + 1 + 1 + 1 ≤ p1 ∧ p1 ≤ (p115 + 1 + 1 + 1) + 3 * (i : Int)) ∧ (1 ≤ kk ∧ kk ≤ 9) ∧ (0 ≤ aa ∧ aa ≤ 3) ∧ TabG tlo w' ta ms ∧ hi ≤ w'.heap.size ∧ f' 6 = .int .i64 (i : Int) ∧ f' 0 = .pointer (some ⟨R, 0, none⟩) ∧ f' 1 = .slice ta ms.length tc ∧ f' 4 = .pointer (some ⟨B101, 0, none⟩) ∧ f' 5 = .pointer (some ⟨B144, 0, none⟩) ∧ w.grownBy w' (some R) ∧ Blk w' B101 76 #[.int .i64 0, .int .i64 0, .int .i64 0, .int .i64 0, .int .i64 0] ∧ Blk w' B144 76 #[.int .i64 kk, .int .i64 k114, .int .i64 aa, .int .i64 k130, .int .i64 k137] ∧ Blk w' R 121 #[.slice a bs.length c, .int .i64 p1]) (6 - 0) ⟨0, (p115 + 1 + 1 + 1), (1 + k106), k123, rfl, (Nat.zero_le _), (by omega), (by omega), (by omega), hTG152, (Nat.le_trans (Nat.le_trans (Nat.le_trans (Nat.le_trans (Nat.le_trans (Nat.le_trans (Nat.le_trans (Nat.le_trans (Nat.le_of_eq hhi) hN103.grw.size) hg110.size) hg119.size) hg127.size) hg134.size) hg141.size) hN146.grw.size) hS150.grw.size), rfl, rfl, rfl, rfl, rfl, hb151, k153, hS150.blk, k154⟩ ?_
 rintro mm f155 w156 ⟨i, p1, kk, aa, hm158, hi6, hpp, hkk, haa, hGl, hhs, e159, e160, e161, e162, e163, hb157, k164, k165, k166⟩
 refine wpf_seq ?_
 refine wpf_seq_region ?_
 refine wpo_move (v := .int .i64 (i : Int)) e159 rfl ?_
 refine wpo_lss (q := decide ((i : Int) < 6)) rfl rfl rfl rfl ?_
 refine wpo_move (v := .bool (decide ((i : Int) < 6))) rfl rfl ?_
 rcases bcases (decide ((i : Int) < 6)) with h190 | h190
 ·
  have h191 := of_decide_eq_true h190
  refine wpo_run rfl rfl rfl h190 ?_
  refine wpo_move (v := .pointer (some ⟨R, 0, none⟩)) e160 rfl ?_
  refine wpo_run rfl rfl rfl h190 ?_
  refine wpo_call (vs := [.pointer (some ⟨R, 0, none⟩), .int .i64 6]) gf_60 (args_cons rfl (args_cons rfl args_nil)) rfl (pick_c p1 6 (by omega) _ R bs _ _ _ k166 (by omega) (SlLt.low1 hs hb157 hlo) (by first | exact hb | exact fun b h => hb b (List.mem_of_mem_take h)) (by first | omega | (rw [List.length_take]; omega))) ?_
  rintro _ w197 ⟨k192, rfl, hk193, hk194, kR195, hg196⟩
  have hb198 := grown_trans hb157 hg196
  refine wpo_run rfl rfl rfl h190 ?_
  refine wpo_gtr (q := decide (0 < k192)) rfl rfl rfl rfl ?_
  refine wpo_pickt (v := .bool (decide (0 < k192))) rfl h190 rfl rfl ?_
  refine wpo_move (v := .bool (decide (0 < k192))) rfl rfl ?_
  rcases bcases (decide (0 < k192)) with h199 | h199
  ·
   have h200 := of_decide_eq_true h199
   refine wpo_run rfl rfl rfl h199 ?_
   refine wpo_move (v := .slice ta ms.length tc) e161 rfl ?_
   refine wpo_run rfl rfl rfl h199 ?_
   refine wpo_fieldAddr (o' := 1) fo_76_1 e163 rfl rfl ?_
   refine wpo_run rfl rfl rfl h199 ?_
   have k201 := (k165.grown hg196 (some_ne (by omega)))
   refine wpo_load1 (v := .int .i64 k114) ot_3 rfl (k201.cell rfl) rfl ?_
   refine wpo_run rfl rfl rfl h199 ?_
   have hTG202 := (TabG.lt hGl hg196 (by omega))
   refine wpo_call (vs := [.slice ta ms.length tc, .int .i64 k114]) gf_109 (args_cons rfl (args_cons rfl args_nil)) rfl (l11Run_c k114 (by omega) _ ms _ _ (TabG.at hTG202) hlen (by omega)) ?_
   rintro _ w203 ⟨rfl, hg204⟩
   have hb205 := low0 hb198 hg204
   refine wpo_pickt (v := .bool (kindAt (tabT ms) k114 3)) rfl h199 rfl rfl ?_
   refine wpo_move (v := .bool (kindAt (tabT ms) k114 3)) rfl rfl ?_
   rcases bcases (kindAt (tabT ms) k114 3) with h206 | h206
   ·
    refine wpo_run rfl rfl rfl h206 ?_
    refine wpo_move (v := .slice ta ms.length tc) e161 rfl ?_
    refine wpo_run rfl rfl rfl h206 ?_
    refine wpo_fieldAddr (o' := 1) fo_76_1 e163 rfl rfl ?_
    refine wpo_run rfl rfl rfl h206 ?_
    have k207 := (k201.grown0 hg204)
    refine wpo_load1 (v := .int .i64 k114) ot_3 rfl (k207.cell rfl) rfl ?_
    refine wpo_run rfl rfl rfl h206 ?_
    refine wpo_sub (c := k114 - 1) rfl rfl (by omega) (by omega) (by omega) rfl ?_
    refine wpo_run rfl rfl rfl h206 ?_
    have hTG216 := (TabG.low hTG202 hg204)
    obtain ⟨b210, q211, o212, ha213, ho214, hr215⟩ := SlAt.at (TabG.at hTG216).1 (map_get (mAt_get (show (k114 - 1).toNat < ms.length by omega)))
    have hle217 := TabLen.at hlen (mAt_get (show (k114 - 1).toNat < ms.length by omega))
    refine wpo_indexE es_54 rfl rfl ha213 ho214 (by omega) (by omega) rfl ?_
    refine wpo_run rfl rfl rfl h206 ?_
    refine wpo_fieldAddr (o' := o212 + 5) fo_45_4 rfl rfl rfl ?_
    refine wpo_run rfl rfl rfl h206 ?_
    refine wpo_load1 (v := .slice ((mAt ms ((k114 - 1).toNat)).sa) ((mAt ms ((k114 - 1).toNat)).t.slots.length) ((mAt ms ((k114 - 1).toNat)).sc)) ot_27 rfl (hr215 5 _ rfl) rfl ?_
    refine wpo_run rfl rfl rfl h206 ?_
    refine wpo_len (by kernel_rfl) rfl rfl ?_
    refine wpo_run rfl rfl rfl h206 ?_
    refine wpo_eql (q := decide (((mAt ms ((k114 - 1).toNat)).t.slots.length : Int) = 4)) rfl rfl rfl rfl ?_
    refine wpo_pickt (v := .bool (decide (((mAt ms ((k114 - 1).toNat)).t.slots.length : Int) = 4))) rfl h206 rfl rfl ?_
    refine wpo_nil ?_
    refine wpf_cond rfl (fun h218 => ?_) (fun h218 => ?_)
    ·
     have h219 := of_decide_eq_true h218
     refine wpf_skip ?_
     refine thn_n ?_
     refine wpf_seq ?_
     refine wpf_block ?_
     refine wpf_seq ?_
     obtain ⟨b256, q257, o258, ha259, ho260, hr261⟩ := SlAt.at (TabAt.th (TabG.at hTG216) (mAt_get (show (k114 - 1).toNat < ms.length by omega))).1 (map_get (rAt_get (show (aa).toNat < (mAt ms ((k114 - 1).toNat)).t.slots.length by omega)))
     refine wpf_drawI (m := 12) [[], [], [1], [1, 2], [0, 1, 2, 3], [0, 1, 2, 3, 4], [0, 1, 2, 3, 4, 5], [], [7], [0, 1, 2, 3, 4, 5, 6, 7, 8], [0, 1, 2, 3, 4, 5, 6, 7, 8, 9], [], [0, 1, 2, 3, 4, 5, 6, 7, 8, 9, 10, 11]] (fun S F w' => ∃ (B268 : Nat), w203.grownBy w' none ∧ F 0 = .pointer (some ⟨R, 0, none⟩) ∧ F 1 = .slice ta ms.length tc ∧ F 4 = .pointer (some ⟨B101, 0, none⟩) ∧ F 5 = .pointer (some ⟨B144, 0, none⟩) ∧ F 6 = .int .i64 (i : Int) ∧ (S 0 = true → F 47 = .slice ta ms.length tc) ∧ (S 1 = true → F 48 = .pointer (some ⟨B144, 1, none⟩)) ∧ (S 2 = true → F 49 = .int .i64 k114) ∧ (S 3 = true → F 50 = .int .i64 (k114 - 1)) ∧ (S 4 = true → F 51 = .pointer (some ⟨b210, o212, none⟩)) ∧ (S 5 = true → F 52 = .pointer (some ⟨b210, o212 + 5, none⟩)) ∧ (S 6 = true → F 53 = .slice ((mAt ms ((k114 - 1).toNat)).sa) ((mAt ms ((k114 - 1).toNat)).t.slots.length) ((mAt ms ((k114 - 1).toNat)).sc)) ∧ (S 7 = true → F 54 = .pointer (some ⟨B144, 2, none⟩)) ∧ (S 8 = true → F 55 = .int .i64 aa) ∧ (S 9 = true → F 56 = .pointer (some ⟨b256, o258, none⟩)) ∧ (S 10 = true → F 57 = .agg #[.int .i64 ((rAt (mAt ms ((k114 - 1).toNat)).t.slots ((aa).toNat)).th), .int .i64 ((rAt (mAt ms ((k114 - 1).toNat)).t.slots ((aa).toNat)).ve), .bool ((rAt (mAt ms ((k114 - 1).toNat)).t.slots ((aa).toNat)).rd), .bool ((rAt (mAt ms ((k114 - 1).toNat)).t.slots ((aa).toNat)).wr), .bool ((rAt (mAt ms ((k114 - 1).toNat)).t.slots ((aa).toNat)).wk)]) ∧ (S 11 = true → F 7 = .pointer (some ⟨B268, 0, none⟩) ∧ w.heap.size ≤ B268 ∧ Blk w' B268 29 #[.int .i64 0, .int .i64 0, .bool false, .bool false, .bool false] ∧ B101 < B268 ∧ B144 < B268 ∧ R < B268 ∧ w203.heap.size ≤ B268)) mixed_ (by kernel_rfl) ⟨0, grown_drew _, e160, e161, e162, e163, e159, fun h => not_begun h, fun h => not_begun h, fun h => not_begun h, fun h => not_begun h, fun h => not_begun h, fun h => not_begun h, fun h => not_begun h, fun h => not_begun h, fun h => not_begun h, fun h => not_begun h, fun h => not_begun h, fun h => not_begun h⟩ ?_ ?_
     ·
      refine preL_cons (fun S F w274 hS hbef hcl hI => ?_) ?_
      ·
       obtain ⟨B268, hi275, e276, e277, e278, e279, e280, c_0, c_1, c_2, c_3, c_4, c_5, c_6, c_7, c_8, c_9, c_10, c_11⟩ := hI
       have hb281 := low0 hb205 hi275
       refine wpo_move (v := .slice ta ms.length tc) e277 rfl ?_
       exact wpo_nil ⟨B268, hi275, e276, e277, e278, e279, e280, fun _ => rfl, c_1, c_2, c_3, fun h => undone 4 hS hcl rfl h, fun h => undone 5 hS hcl rfl h, fun h => undone 6 hS hcl rfl h, c_7, c_8, fun h => undone 9 hS hcl rfl h, fun h => undone 10 hS hcl rfl h, c_11⟩
      refine preL_cons (fun S F w282 hS hbef hcl hI => ?_) ?_
      ·
       obtain ⟨B268, hi283, e284, e285, e286, e287, e288, c_0, c_1, c_2, c_3, c_4, c_5, c_6, c_7, c_8, c_9, c_10, c_11⟩ := hI
       have hb289 := low0 hb205 hi283
       refine wpo_fieldAddr (o' := 1) fo_76_1 e287 rfl rfl ?_
       exact wpo_nil ⟨B268, hi283, e284, e285, e286, e287, e288, c_0, fun _ => rfl, fun h => undone 2 hS hcl rfl h, fun h => undone 3 hS hcl rfl h, fun h => undone 4 hS hcl rfl h, fun h => undone 5 hS hcl rfl h, fun h => undone 6 hS hcl rfl h, c_7, c_8, fun h => undone 9 hS hcl rfl h, fun h => undone 10 hS hcl rfl h, c_11⟩
      refine preL_cons (fun S F w290 hS hbef hcl hI => ?_) ?_
      ·
       obtain ⟨B268, hi291, e292, e293, e294, e295, e296, c_0, c_1, c_2, c_3, c_4, c_5, c_6, c_7, c_8, c_9, c_10, c_11⟩ := hI
       have hb297 := low0 hb205 hi291
       obtain e298 := c_1 (ready_of 1 hbef rfl)
       have k299 := (k207.grown0 hi291)
       refine wpo_load1 (v := .int .i64 k114) ot_3 e298 (k299.cell rfl) rfl ?_
       exact wpo_nil ⟨B268, hi291, e292, e293, e294, e295, e296, c_0, c_1, fun _ => rfl, fun h => undone 3 hS hcl rfl h, fun h => undone 4 hS hcl rfl h, fun h => undone 5 hS hcl rfl h, fun h => undone 6 hS hcl rfl h, c_7, c_8, fun h => undone 9 hS hcl rfl h, fun h => undone 10 hS hcl rfl h, c_11⟩
      refine preL_cons (fun S F w300 hS hbef hcl hI => ?_) ?_
      ·
       obtain ⟨B268, hi301, e302, e303, e304, e305, e306, c_0, c_1, c_2, c_3, c_4, c_5, c_6, c_7, c_8, c_9, c_10, c_11⟩ := hI
       have hb307 := low0 hb205 hi301
       obtain e308 := c_1 (ready_of 1 hbef rfl)
       obtain e309 := c_2 (ready_of 2 hbef rfl)
       refine wpo_sub (c := k114 - 1) e309 rfl (by omega) (by omega) (by omega) rfl ?_
       exact wpo_nil ⟨B268, hi301, e302, e303, e304, e305, e306, c_0, c_1, c_2, fun _ => rfl, fun h => undone 4 hS hcl rfl h, fun h => undone 5 hS hcl rfl h, fun h => undone 6 hS hcl rfl h, c_7, c_8, fun h => undone 9 hS hcl rfl h, fun h => undone 10 hS hcl rfl h, c_11⟩
      refine preL_cons (fun S F w310 hS hbef hcl hI => ?_) ?_
      ·
       obtain ⟨B268, hi311, e312, e313, e314, e315, e316, c_0, c_1, c_2, c_3, c_4, c_5, c_6, c_7, c_8, c_9, c_10, c_11⟩ := hI
       have hb317 := low0 hb205 hi311
       obtain e318 := c_0 (ready_of 0 hbef rfl)
       obtain e319 := c_1 (ready_of 1 hbef rfl)
       obtain e320 := c_2 (ready_of 2 hbef rfl)
       obtain e321 := c_3 (ready_of 3 hbef rfl)
       refine wpo_indexE es_54 e318 e321 ha213 ho214 (by omega) (by omega) rfl ?_
       exact wpo_nil ⟨B268, hi311, e312, e313, e314, e315, e316, c_0, c_1, c_2, c_3, fun _ => rfl, fun h => undone 5 hS hcl rfl h, fun h => undone 6 hS hcl rfl h, c_7, c_8, fun h => undone 9 hS hcl rfl h, fun h => undone 10 hS hcl rfl h, c_11⟩
      refine preL_cons (fun S F w322 hS hbef hcl hI => ?_) ?_
      ·
       obtain ⟨B268, hi323, e324, e325, e326, e327, e328, c_0, c_1, c_2, c_3, c_4, c_5, c_6, c_7, c_8, c_9, c_10, c_11⟩ := hI
       have hb329 := low0 hb205 hi323
       obtain e330 := c_0 (ready_of 0 hbef rfl)
       obtain e331 := c_1 (ready_of 1 hbef rfl)
       obtain e332 := c_2 (ready_of 2 hbef rfl)
       obtain e333 := c_3 (ready_of 3 hbef rfl)
       obtain e334 := c_4 (ready_of 4 hbef rfl)
       refine wpo_fieldAddr (o' := o212 + 5) fo_45_4 e334 rfl rfl ?_
       exact wpo_nil ⟨B268, hi323, e324, e325, e326, e327, e328, c_0, c_1, c_2, c_3, c_4, fun _ => rfl, fun h => undone 6 hS hcl rfl h, c_7, c_8, fun h => undone 9 hS hcl rfl h, fun h => undone 10 hS hcl rfl h, c_11⟩
      refine preL_cons (fun S F w335 hS hbef hcl hI => ?_) ?_
      ·
       obtain ⟨B268, hi336, e337, e338, e339, e340, e341, c_0, c_1, c_2, c_3, c_4, c_5, c_6, c_7, c_8, c_9, c_10, c_11⟩ := hI
       have hb342 := low0 hb205 hi336
       obtain e343 := c_0 (ready_of 0 hbef rfl)
       obtain e344 := c_1 (ready_of 1 hbef rfl)
       obtain e345 := c_2 (ready_of 2 hbef rfl)
       obtain e346 := c_3 (ready_of 3 hbef rfl)
       obtain e347 := c_4 (ready_of 4 hbef rfl)
       obtain e348 := c_5 (ready_of 5 hbef rfl)
       refine wpo_load1 (v := .slice ((mAt ms ((k114 - 1).toNat)).sa) ((mAt ms ((k114 - 1).toNat)).t.slots.length) ((mAt ms ((k114 - 1).toNat)).sc)) ot_27 e348 ((range_low hr215 hi336) 5 _ rfl) rfl ?_
       exact wpo_nil ⟨B268, hi336, e337, e338, e339, e340, e341, c_0, c_1, c_2, c_3, c_4, c_5, fun _ => rfl, c_7, c_8, fun h => undone 9 hS hcl rfl h, fun h => undone 10 hS hcl rfl h, c_11⟩
      refine preL_cons (fun S F w349 hS hbef hcl hI => ?_) ?_
      ·
       obtain ⟨B268, hi350, e351, e352, e353, e354, e355, c_0, c_1, c_2, c_3, c_4, c_5, c_6, c_7, c_8, c_9, c_10, c_11⟩ := hI
       have hb356 := low0 hb205 hi350
       refine wpo_fieldAddr (o' := 2) fo_76_2 e354 rfl rfl ?_
       exact wpo_nil ⟨B268, hi350, e351, e352, e353, e354, e355, c_0, c_1, c_2, c_3, c_4, c_5, c_6, fun _ => rfl, fun h => undone 8 hS hcl rfl h, fun h => undone 9 hS hcl rfl h, fun h => undone 10 hS hcl rfl h, c_11⟩
      refine preL_cons (fun S F w357 hS hbef hcl hI => ?_) ?_
      ·
       obtain ⟨B268, hi358, e359, e360, e361, e362, e363, c_0, c_1, c_2, c_3, c_4, c_5, c_6, c_7, c_8, c_9, c_10, c_11⟩ := hI
       have hb364 := low0 hb205 hi358
       obtain e365 := c_7 (ready_of 7 hbef rfl)
       have k366 := (k207.grown0 hi358)
       refine wpo_load1 (v := .int .i64 aa) ot_3 e365 (k366.cell rfl) rfl ?_
       exact wpo_nil ⟨B268, hi358, e359, e360, e361, e362, e363, c_0, c_1, c_2, c_3, c_4, c_5, c_6, c_7, fun _ => rfl, fun h => undone 9 hS hcl rfl h, fun h => undone 10 hS hcl rfl h, c_11⟩
      refine preL_cons (fun S F w367 hS hbef hcl hI => ?_) ?_
      ·
       obtain ⟨B268, hi368, e369, e370, e371, e372, e373, c_0, c_1, c_2, c_3, c_4, c_5, c_6, c_7, c_8, c_9, c_10, c_11⟩ := hI
       have hb374 := low0 hb205 hi368
       obtain e375 := c_0 (ready_of 0 hbef rfl)
       obtain e376 := c_1 (ready_of 1 hbef rfl)
       obtain e377 := c_2 (ready_of 2 hbef rfl)
       obtain e378 := c_3 (ready_of 3 hbef rfl)
       obtain e379 := c_4 (ready_of 4 hbef rfl)
       obtain e380 := c_5 (ready_of 5 hbef rfl)
       obtain e381 := c_6 (ready_of 6 hbef rfl)
       obtain e382 := c_7 (ready_of 7 hbef rfl)
       obtain e383 := c_8 (ready_of 8 hbef rfl)
       refine wpo_indexE es_27 e381 e383 ha259 ho260 (by omega) (by omega) rfl ?_
       exact wpo_nil ⟨B268, hi368, e369, e370, e371, e372, e373, c_0, c_1, c_2, c_3, c_4, c_5, c_6, c_7, c_8, fun _ => rfl, fun h => undone 10 hS hcl rfl h, c_11⟩
      refine preL_cons (fun S F w384 hS hbef hcl hI => ?_) ?_
      ·
       obtain ⟨B268, hi385, e386, e387, e388, e389, e390, c_0, c_1, c_2, c_3, c_4, c_5, c_6, c_7, c_8, c_9, c_10, c_11⟩ := hI
       have hb391 := low0 hb205 hi385
       obtain e392 := c_0 (ready_of 0 hbef rfl)
       obtain e393 := c_1 (ready_of 1 hbef rfl)
       obtain e394 := c_2 (ready_of 2 hbef rfl)
       obtain e395 := c_3 (ready_of 3 hbef rfl)
       obtain e396 := c_4 (ready_of 4 hbef rfl)
       obtain e397 := c_5 (ready_of 5 hbef rfl)
       obtain e398 := c_6 (ready_of 6 hbef rfl)
       obtain e399 := c_7 (ready_of 7 hbef rfl)
       obtain e400 := c_8 (ready_of 8 hbef rfl)
       obtain e401 := c_9 (ready_of 9 hbef rfl)
       refine wpo_loadn (vs := [.int .i64 ((rAt (mAt ms ((k114 - 1).toNat)).t.slots ((aa).toNat)).th), .int .i64 ((rAt (mAt ms ((k114 - 1).toNat)).t.slots ((aa).toNat)).ve), .bool ((rAt (mAt ms ((k114 - 1).toNat)).t.slots ((aa).toNat)).rd), .bool ((rAt (mAt ms ((k114 - 1).toNat)).t.slots ((aa).toNat)).wr), .bool ((rAt (mAt ms ((k114 - 1).toNat)).t.slots ((aa).toNat)).wk)]) rt_29 e401 rfl (range_sub (range_low hr261 hi385) 0 5 rfl) rfl ?_
       exact wpo_nil ⟨B268, hi385, e386, e387, e388, e389, e390, c_0, c_1, c_2, c_3, c_4, c_5, c_6, c_7, c_8, c_9, fun _ => rfl, c_11⟩
      refine preL_cons (fun S F w402 hS hbef hcl hI => ?_) ?_
      ·
       obtain ⟨B268, hi403, e404, e405, e406, e407, e408, c_0, c_1, c_2, c_3, c_4, c_5, c_6, c_7, c_8, c_9, c_10, c_11⟩ := hI
       have hb409 := low0 hb205 hi403
       refine wpo_alloc (cs := #[.int .i64 0, .int .i64 0, .bool false, .bool false, .bool false]) zt_29 rfl rfl ?_
       intro B410 w411 hN412
       have hlB410 := hN_ge hN412 hb409
       have hhiB410 : hi ≤ B410 := Nat.le_trans (Nat.le_trans (Nat.le_trans (Nat.le_trans hhs hg196.size) hg204.size) hi403.size) (Nat.le_of_eq hN412.eq.symm)
       have k413 := (((k164.grown hg196 (some_ne (by omega))).grown0 hg204).grown0 hi403)
       have lt_B101_B410 := hN_gtl hN412 (k413).lt
       have k414 := (k207.grown0 hi403)
       have lt_B144_B410 := hN_gtl hN412 (k414).lt
       have k415 := ((kR195.grown0 hg204).grown0 hi403)
       have lt_R_B410 := hN_gtl hN412 (k415).lt
       have hb416 := low0 hb409 hN412.grw
       exact wpo_nil ⟨B410, (low0 hi403 hN412.grw), e404, e405, e406, e407, e408, c_0, c_1, c_2, c_3, c_4, c_5, c_6, c_7, c_8, c_9, c_10, fun _ => ⟨rfl, hlB410, hN412.blk, lt_B101_B410, lt_B144_B410, lt_R_B410, (Nat.le_trans hi403.size (Nat.le_of_eq hN412.eq.symm))⟩⟩
      exact preL_nil
     ·
      intro S F w417 hall hI
      obtain ⟨B268, hi418, e419, e420, e421, e422, e423, c_0, c_1, c_2, c_3, c_4, c_5, c_6, c_7, c_8, c_9, c_10, c_11⟩ := hI
      have hb424 := low0 hb205 hi418
      obtain e425 := c_0 (hall 0 (by decide))
      obtain e426 := c_1 (hall 1 (by decide))
      obtain e427 := c_2 (hall 2 (by decide))
      obtain e428 := c_3 (hall 3 (by decide))
      obtain e429 := c_4 (hall 4 (by decide))
      obtain e430 := c_5 (hall 5 (by decide))
      obtain e431 := c_6 (hall 6 (by decide))
      obtain e432 := c_7 (hall 7 (by decide))
      obtain e433 := c_8 (hall 8 (by decide))
      obtain e434 := c_9 (hall 9 (by decide))
      obtain e435 := c_10 (hall 10 (by decide))
      obtain ⟨e436, hlB268, kb_B268, lt_B101_B268, lt_B144_B268, lt_R_B268, hk_B268⟩ := c_11 (hall 11 (by decide))
      refine wpo_storen (vs := [.int .i64 ((rAt (mAt ms ((k114 - 1).toNat)).t.slots ((aa).toNat)).th), .int .i64 ((rAt (mAt ms ((k114 - 1).toNat)).t.slots ((aa).toNat)).ve), .bool ((rAt (mAt ms ((k114 - 1).toNat)).t.slots ((aa).toNat)).rd), .bool ((rAt (mAt ms ((k114 - 1).toNat)).t.slots ((aa).toNat)).wr), .bool ((rAt (mAt ms ((k114 - 1).toNat)).t.slots ((aa).toNat)).wk)]) (cs' := #[.int .i64 ((rAt (mAt ms ((k114 - 1).toNat)).t.slots ((aa).toNat)).th), .int .i64 ((rAt (mAt ms ((k114 - 1).toNat)).t.slots ((aa).toNat)).ve), .bool ((rAt (mAt ms ((k114 - 1).toNat)).t.slots ((aa).toNat)).rd), .bool ((rAt (mAt ms ((k114 - 1).toNat)).t.slots ((aa).toNat)).wr), .bool ((rAt (mAt ms ((k114 - 1).toNat)).t.slots ((aa).toNat)).wk)]) rt_29 e436 e435 rfl (by simp [Value.oneCell']) kb_B268 (Nat.le_of_ble_eq_true rfl) rfl ?_
      intro w437 hS438
      have hb439 := low1 hb424 hS438.grw (by omega)
      refine wpo_nil ?_
      refine thn_n ?_
      refine wpf_seq ?_
      refine wpf_seq_mid (fun f' w' => (f' 0 = .pointer (some ⟨R, 0, none⟩) ∧ f' 1 = .slice ta ms.length tc ∧ f' 4 = .pointer (some ⟨B101, 0, none⟩) ∧ f' 5 = .pointer (some ⟨B144, 0, none⟩) ∧ f' 6 = .int .i64 (i : Int) ∧ f' 79 = .bool ((decide (kk = 3)) || (inR ((rAt (mAt ms ((k114 - 1).toNat)).t.slots ((aa).toNat)).th) 1 (ms.length : Int) && kindFor kk ((mAt ms ((((rAt (mAt ms ((k114 - 1).toNat)).t.slots ((aa).toNat)).th) - 1).toNat)).t.kind)))) ∧ w437.grownBy w' none) ?_ ?_
      ·
       rcases bcases (decide (kk = 3)) with h461 | h461
       ·
        have h462 := of_decide_eq_true h461
        refine wpf_draw (m := 19) (vals := [(58, .pointer (some ⟨B144, 0, none⟩)), (59, .int .i64 kk), (60, .bool (decide (kk = 3))), (61, .bool (decide (kk = 3))), (62, undef), (63, undef), (64, undef), (65, undef), (66, undef), (67, undef), (68, undef), (69, undef), (70, undef), (71, undef), (72, undef), (73, undef), (74, undef), (75, undef), (76, undef)]) (fun w' => w437.grownBy w' none) mixed_ (by kernel_rfl) (grown_drew _) ?_ ?_
        ·
         refine yll_cons rfl (fun w466 hi467 => ?_) ?_
         ·
          have hb468 := low0 hb439 hi467
          refine wpo_fieldAddr (o' := 0) fo_76_0 e422 rfl rfl ?_
          exact wpo_nil ⟨rfl, hi467⟩
         refine yll_cons rfl (fun w469 hi470 => ?_) ?_
         ·
          have hb471 := low0 hb439 hi470
          have k472 := (((k207.grown0 hi418).grown hS438.grw (some_ne (by omega))).grown0 hi470)
          refine wpo_load1 (v := .int .i64 kk) ot_3 rfl (k472.cell rfl) rfl ?_
          exact wpo_nil ⟨rfl, hi470⟩
         refine yll_cons rfl (fun w473 hi474 => ?_) ?_
         ·
          have hb475 := low0 hb439 hi474
          refine wpo_eql (q := decide (kk = 3)) rfl rfl rfl rfl ?_
          exact wpo_nil ⟨rfl, hi474⟩
         refine yll_cons rfl (fun w476 hi477 => ?_) ?_
         ·
          have hb478 := low0 hb439 hi477
          refine wpo_move (v := .bool (decide (kk = 3))) rfl rfl ?_
          exact wpo_nil ⟨rfl, hi477⟩
         refine yll_cons rfl (fun w479 hi480 => ?_) ?_
         ·
          have hb481 := low0 hb439 hi480
          refine wpo_pass rfl rfl rfl h461 rfl ?_
          exact wpo_nil ⟨rfl, hi480⟩
         refine yll_cons rfl (fun w482 hi483 => ?_) ?_
         ·
          have hb484 := low0 hb439 hi483
          refine wpo_pass rfl rfl rfl h461 rfl ?_
          exact wpo_nil ⟨rfl, hi483⟩
         refine yll_cons rfl (fun w485 hi486 => ?_) ?_
         ·
          have hb487 := low0 hb439 hi486
          refine wpo_pass rfl rfl rfl h461 rfl ?_
          exact wpo_nil ⟨rfl, hi486⟩
         refine yll_cons rfl (fun w488 hi489 => ?_) ?_
         ·
          have hb490 := low0 hb439 hi489
          refine wpo_pass rfl rfl rfl h461 rfl ?_
          exact wpo_nil ⟨rfl, hi489⟩
         refine yll_cons rfl (fun w491 hi492 => ?_) ?_
         ·
          have hb493 := low0 hb439 hi492
          refine wpo_pass rfl rfl rfl h461 rfl ?_
          exact wpo_nil ⟨rfl, hi492⟩
         refine yll_cons rfl (fun w494 hi495 => ?_) ?_
         ·
          have hb496 := low0 hb439 hi495
          refine wpo_pass rfl rfl rfl h461 rfl ?_
          exact wpo_nil ⟨rfl, hi495⟩
         refine yll_cons rfl (fun w497 hi498 => ?_) ?_
         ·
          have hb499 := low0 hb439 hi498
          refine wpo_passu rfl rfl rfl rfl ?_
          exact wpo_nil ⟨rfl, hi498⟩
         refine yll_cons rfl (fun w500 hi501 => ?_) ?_
         ·
          have hb502 := low0 hb439 hi501
          refine wpo_passu rfl rfl rfl rfl ?_
          exact wpo_nil ⟨rfl, hi501⟩
         refine yll_cons rfl (fun w503 hi504 => ?_) ?_
         ·
          have hb505 := low0 hb439 hi504
          refine wpo_passu rfl rfl rfl rfl ?_
          exact wpo_nil ⟨rfl, hi504⟩
         refine yll_cons rfl (fun w506 hi507 => ?_) ?_
         ·
          have hb508 := low0 hb439 hi507
          refine wpo_passu rfl rfl rfl rfl ?_
          exact wpo_nil ⟨rfl, hi507⟩
         refine yll_cons rfl (fun w509 hi510 => ?_) ?_
         ·
          have hb511 := low0 hb439 hi510
          refine wpo_passu rfl rfl rfl rfl ?_
          exact wpo_nil ⟨rfl, hi510⟩
         refine yll_cons rfl (fun w512 hi513 => ?_) ?_
         ·
          have hb514 := low0 hb439 hi513
          refine wpo_passu rfl rfl rfl rfl ?_
          exact wpo_nil ⟨rfl, hi513⟩
         refine yll_cons rfl (fun w515 hi516 => ?_) ?_
         ·
          have hb517 := low0 hb439 hi516
          refine wpo_passu rfl rfl rfl rfl ?_
          exact wpo_nil ⟨rfl, hi516⟩
         refine yll_cons rfl (fun w518 hi519 => ?_) ?_
         ·
          have hb520 := low0 hb439 hi519
          refine wpo_passu rfl rfl rfl rfl ?_
          exact wpo_nil ⟨rfl, hi519⟩
         refine yll_cons rfl (fun w521 hi522 => ?_) ?_
         ·
          have hb523 := low0 hb439 hi522
          refine wpo_passu rfl rfl rfl rfl ?_
          exact wpo_nil ⟨rfl, hi522⟩
         exact yll_nil
        ·
         intro w524 hi525
         have hb526 := low0 hb439 hi525
         refine wpo_passu rfl rfl rfl rfl ?_
         refine wpo_pass rfl rfl rfl h461 rfl ?_
         refine wpo_pickt (v := .bool true) rfl h461 rfl rfl ?_
         exact wpo_nil (thn_n ⟨⟨e419, e420, e421, e422, e423, (congrArg Value.bool (by first | (simp only [h190, h199, h206, h218, h461, b0, b1, b2, b3, b4, b5, b6, b7, b8, b9]; done) | simp [h190, h199, h206, h218, h461]))⟩, hi525⟩)
       ·
        have h527 := of_decide_eq_false h461
        rcases bcases (inR ((rAt (mAt ms ((k114 - 1).toNat)).t.slots ((aa).toNat)).th) 1 (ms.length : Int)) with h532 | h532
        ·
         have hr533 := inR_iff.1 h532
         have hTG567 := (TabG.ge (TabG.low hTG216 hi418) hS438.grw hTH (by omega))
         obtain ⟨b561, q562, o563, ha564, ho565, hr566⟩ := SlAt.at (TabG.at hTG567).1 (map_get (mAt_get (show (((rAt (mAt ms ((k114 - 1).toNat)).t.slots ((aa).toNat)).th) - 1).toNat < ms.length by omega)))
         have hle568 := TabLen.at hlen (mAt_get (show (((rAt (mAt ms ((k114 - 1).toNat)).t.slots ((aa).toNat)).th) - 1).toNat < ms.length by omega))
         refine wpf_draw (m := 19) (vals := [(58, .pointer (some ⟨B144, 0, none⟩)), (59, .int .i64 kk), (60, .bool (decide (kk = 3))), (61, .bool (decide (kk = 3))), (62, .pointer (some ⟨B268, 0, none⟩)), (63, .int .i64 ((rAt (mAt ms ((k114 - 1).toNat)).t.slots ((aa).toNat)).th)), (64, .slice ta ms.length tc), (65, .int .i64 (ms.length : Int)), (66, .bool (inR ((rAt (mAt ms ((k114 - 1).toNat)).t.slots ((aa).toNat)).th) 1 (ms.length : Int))), (67, .bool (inR ((rAt (mAt ms ((k114 - 1).toNat)).t.slots ((aa).toNat)).th) 1 (ms.length : Int))), (68, .pointer (some ⟨B144, 0, none⟩)), (69, .int .i64 kk), (70, .slice ta ms.length tc), (71, .pointer (some ⟨B268, 0, none⟩)), (72, .int .i64 ((rAt (mAt ms ((k114 - 1).toNat)).t.slots ((aa).toNat)).th)), (73, .int .i64 (((rAt (mAt ms ((k114 - 1).toNat)).t.slots ((aa).toNat)).th) - 1)), (74, .pointer (some ⟨b561, o563, none⟩)), (75, .pointer (some ⟨b561, o563, none⟩)), (76, .int .i64 ((mAt ms ((((rAt (mAt ms ((k114 - 1).toNat)).t.slots ((aa).toNat)).th) - 1).toNat)).t.kind))]) (fun w' => w437.grownBy w' none) mixed_ (by kernel_rfl) (grown_drew _) ?_ ?_
         ·
          refine yll_cons rfl (fun w578 hi579 => ?_) ?_
          ·
           have hb580 := low0 hb439 hi579
           refine wpo_fieldAddr (o' := 0) fo_76_0 e422 rfl rfl ?_
           exact wpo_nil ⟨rfl, hi579⟩
          refine yll_cons rfl (fun w581 hi582 => ?_) ?_
          ·
           have hb583 := low0 hb439 hi582
           have k584 := (((k207.grown0 hi418).grown hS438.grw (some_ne (by omega))).grown0 hi582)
           refine wpo_load1 (v := .int .i64 kk) ot_3 rfl (k584.cell rfl) rfl ?_
           exact wpo_nil ⟨rfl, hi582⟩
          refine yll_cons rfl (fun w585 hi586 => ?_) ?_
          ·
           have hb587 := low0 hb439 hi586
           refine wpo_eql (q := decide (kk = 3)) rfl rfl rfl rfl ?_
           exact wpo_nil ⟨rfl, hi586⟩
          refine yll_cons rfl (fun w588 hi589 => ?_) ?_
          ·
           have hb590 := low0 hb439 hi589
           refine wpo_move (v := .bool (decide (kk = 3))) rfl rfl ?_
           exact wpo_nil ⟨rfl, hi589⟩
          refine yll_cons rfl (fun w591 hi592 => ?_) ?_
          ·
           have hb593 := low0 hb439 hi592
           refine wpo_run rfl rfl rfl h461 ?_
           refine wpo_fieldAddr (o' := 0) fo_29_0 e436 rfl rfl ?_
           exact wpo_nil ⟨rfl, hi592⟩
          refine yll_cons rfl (fun w594 hi595 => ?_) ?_
          ·
           have hb596 := low0 hb439 hi595
           refine wpo_run rfl rfl rfl h461 ?_
           have k597 := (hS438.blk.grown0 hi595)
           refine wpo_load1 (v := .int .i64 ((rAt (mAt ms ((k114 - 1).toNat)).t.slots ((aa).toNat)).th)) ot_3 rfl (k597.cell rfl) rfl ?_
           exact wpo_nil ⟨rfl, hi595⟩
          refine yll_cons rfl (fun w598 hi599 => ?_) ?_
          ·
           have hb600 := low0 hb439 hi599
           refine wpo_run rfl rfl rfl h461 ?_
           refine wpo_move (v := .slice ta ms.length tc) e420 rfl ?_
           exact wpo_nil ⟨rfl, hi599⟩
          refine yll_cons rfl (fun w601 hi602 => ?_) ?_
          ·
           have hb603 := low0 hb439 hi602
           refine wpo_run rfl rfl rfl h461 ?_
           refine wpo_len (by kernel_rfl) rfl rfl ?_
           exact wpo_nil ⟨rfl, hi602⟩
          refine yll_cons rfl (fun w604 hi605 => ?_) ?_
          ·
           have hb606 := low0 hb439 hi605
           refine wpo_run rfl rfl rfl h461 ?_
           refine wpo_call (vs := [.int .i64 ((rAt (mAt ms ((k114 - 1).toNat)).t.slots ((aa).toNat)).th), .int .i64 1, .int .i64 (ms.length : Int)]) gf_85 (args_cons rfl (args_cons rfl (args_cons rfl args_nil))) rfl (l6In_c ((rAt (mAt ms ((k114 - 1).toNat)).t.slots ((aa).toNat)).th) 1 (ms.length : Int) _) ?_
           rintro _ w607 ⟨rfl, hg608⟩
           have hb609 := low0 hb606 hg608
           exact wpo_nil ⟨rfl, (grown_trans hi605 hg608)⟩
          refine yll_cons rfl (fun w610 hi611 => ?_) ?_
          ·
           have hb612 := low0 hb439 hi611
           refine wpo_run rfl rfl rfl h461 ?_
           refine wpo_move (v := .bool (inR ((rAt (mAt ms ((k114 - 1).toNat)).t.slots ((aa).toNat)).th) 1 (ms.length : Int))) rfl rfl ?_
           exact wpo_nil ⟨rfl, hi611⟩
          refine yll_cons rfl (fun w613 hi614 => ?_) ?_
          ·
           have hb615 := low0 hb439 hi614
           refine wpo_run rfl rfl rfl h532 ?_
           refine wpo_fieldAddr (o' := 0) fo_76_0 e422 rfl rfl ?_
           exact wpo_nil ⟨rfl, hi614⟩
          refine yll_cons rfl (fun w616 hi617 => ?_) ?_
          ·
           have hb618 := low0 hb439 hi617
           refine wpo_run rfl rfl rfl h532 ?_
           have k619 := (((k207.grown0 hi418).grown hS438.grw (some_ne (by omega))).grown0 hi617)
           refine wpo_load1 (v := .int .i64 kk) ot_3 rfl (k619.cell rfl) rfl ?_
           exact wpo_nil ⟨rfl, hi617⟩
          refine yll_cons rfl (fun w620 hi621 => ?_) ?_
          ·
           have hb622 := low0 hb439 hi621
           refine wpo_run rfl rfl rfl h532 ?_
           refine wpo_move (v := .slice ta ms.length tc) e420 rfl ?_
           exact wpo_nil ⟨rfl, hi621⟩
          refine yll_cons rfl (fun w623 hi624 => ?_) ?_
          ·
           have hb625 := low0 hb439 hi624
           refine wpo_run rfl rfl rfl h532 ?_
           refine wpo_fieldAddr (o' := 0) fo_29_0 e436 rfl rfl ?_
           exact wpo_nil ⟨rfl, hi624⟩
          refine yll_cons rfl (fun w626 hi627 => ?_) ?_
          ·
           have hb628 := low0 hb439 hi627
           refine wpo_run rfl rfl rfl h532 ?_
           have k629 := (hS438.blk.grown0 hi627)
           refine wpo_load1 (v := .int .i64 ((rAt (mAt ms ((k114 - 1).toNat)).t.slots ((aa).toNat)).th)) ot_3 rfl (k629.cell rfl) rfl ?_
           exact wpo_nil ⟨rfl, hi627⟩
          refine yll_cons rfl (fun w630 hi631 => ?_) ?_
          ·
           have hb632 := low0 hb439 hi631
           refine wpo_run rfl rfl rfl h532 ?_
           refine wpo_sub (c := ((rAt (mAt ms ((k114 - 1).toNat)).t.slots ((aa).toNat)).th) - 1) rfl rfl (by omega) (by omega) (by omega) rfl ?_
           exact wpo_nil ⟨rfl, hi631⟩
          refine yll_cons rfl (fun w633 hi634 => ?_) ?_
          ·
           have hb635 := low0 hb439 hi634
           refine wpo_run rfl rfl rfl h532 ?_
           refine wpo_indexE es_54 rfl rfl ha564 ho565 (by omega) (by omega) rfl ?_
           exact wpo_nil ⟨rfl, hi634⟩
          refine yll_cons rfl (fun w636 hi637 => ?_) ?_
          ·
           have hb638 := low0 hb439 hi637
           refine wpo_run rfl rfl rfl h532 ?_
           refine wpo_fieldAddr (o' := o563) fo_45_0 rfl rfl rfl ?_
           exact wpo_nil ⟨rfl, hi637⟩
          refine yll_cons rfl (fun w639 hi640 => ?_) ?_
          ·
           have hb641 := low0 hb439 hi640
           refine wpo_run rfl rfl rfl h532 ?_
           refine wpo_load1 (v := .int .i64 ((mAt ms ((((rAt (mAt ms ((k114 - 1).toNat)).t.slots ((aa).toNat)).th) - 1).toNat)).t.kind)) ot_3 rfl ((range_low hr566 hi640) 0 _ rfl) rfl ?_
           exact wpo_nil ⟨rfl, hi640⟩
          exact yll_nil
         ·
          intro w642 hi643
          have hb644 := low0 hb439 hi643
          refine wpo_run rfl rfl rfl h532 ?_
          refine wpo_call (vs := [.int .i64 kk, .int .i64 ((mAt ms ((((rAt (mAt ms ((k114 - 1).toNat)).t.slots ((aa).toNat)).th) - 1).toNat)).t.kind)]) gf_118 (args_cons rfl (args_cons rfl args_nil)) rfl (l11Kind_c kk ((mAt ms ((((rAt (mAt ms ((k114 - 1).toNat)).t.slots ((aa).toNat)).th) - 1).toNat)).t.kind) _) ?_
          rintro _ w645 ⟨rfl, hg646⟩
          have hb647 := low0 hb644 hg646
          refine wpo_run rfl rfl rfl h461 ?_
          refine wpo_pickt (v := .bool (kindFor kk ((mAt ms ((((rAt (mAt ms ((k114 - 1).toNat)).t.slots ((aa).toNat)).th) - 1).toNat)).t.kind))) rfl h532 rfl rfl ?_
          refine wpo_pickf (v := .bool (kindFor kk ((mAt ms ((((rAt (mAt ms ((k114 - 1).toNat)).t.slots ((aa).toNat)).th) - 1).toNat)).t.kind))) rfl h461 rfl rfl ?_
          exact wpo_nil (thn_n ⟨⟨e419, e420, e421, e422, e423, (congrArg Value.bool (by first | (simp only [h190, h199, h206, h218, h461, h532, b0, b1, b2, b3, b4, b5, b6, b7, b8, b9]; done) | simp [h190, h199, h206, h218, h461, h532]))⟩, (grown_trans hi643 hg646)⟩)
        ·
         refine wpf_draw (m := 19) (vals := [(58, .pointer (some ⟨B144, 0, none⟩)), (59, .int .i64 kk), (60, .bool (decide (kk = 3))), (61, .bool (decide (kk = 3))), (62, .pointer (some ⟨B268, 0, none⟩)), (63, .int .i64 ((rAt (mAt ms ((k114 - 1).toNat)).t.slots ((aa).toNat)).th)), (64, .slice ta ms.length tc), (65, .int .i64 (ms.length : Int)), (66, .bool (inR ((rAt (mAt ms ((k114 - 1).toNat)).t.slots ((aa).toNat)).th) 1 (ms.length : Int))), (67, .bool (inR ((rAt (mAt ms ((k114 - 1).toNat)).t.slots ((aa).toNat)).th) 1 (ms.length : Int))), (68, undef), (69, undef), (70, undef), (71, undef), (72, undef), (73, undef), (74, undef), (75, undef), (76, undef)]) (fun w' => w437.grownBy w' none) mixed_ (by kernel_rfl) (grown_drew _) ?_ ?_
         ·
          refine yll_cons rfl (fun w660 hi661 => ?_) ?_
          ·
           have hb662 := low0 hb439 hi661
           refine wpo_fieldAddr (o' := 0) fo_76_0 e422 rfl rfl ?_
           exact wpo_nil ⟨rfl, hi661⟩
          refine yll_cons rfl (fun w663 hi664 => ?_) ?_
          ·
           have hb665 := low0 hb439 hi664
           have k666 := (((k207.grown0 hi418).grown hS438.grw (some_ne (by omega))).grown0 hi664)
           refine wpo_load1 (v := .int .i64 kk) ot_3 rfl (k666.cell rfl) rfl ?_
           exact wpo_nil ⟨rfl, hi664⟩
          refine yll_cons rfl (fun w667 hi668 => ?_) ?_
          ·
           have hb669 := low0 hb439 hi668
           refine wpo_eql (q := decide (kk = 3)) rfl rfl rfl rfl ?_
           exact wpo_nil ⟨rfl, hi668⟩
          refine yll_cons rfl (fun w670 hi671 => ?_) ?_
          ·
           have hb672 := low0 hb439 hi671
           refine wpo_move (v := .bool (decide (kk = 3))) rfl rfl ?_
           exact wpo_nil ⟨rfl, hi671⟩
          refine yll_cons rfl (fun w673 hi674 => ?_) ?_
          ·
           have hb675 := low0 hb439 hi674
           refine wpo_run rfl rfl rfl h461 ?_
           refine wpo_fieldAddr (o' := 0) fo_29_0 e436 rfl rfl ?_
           exact wpo_nil ⟨rfl, hi674⟩
          refine yll_cons rfl (fun w676 hi677 => ?_) ?_
          ·
           have hb678 := low0 hb439 hi677
           refine wpo_run rfl rfl rfl h461 ?_
           have k679 := (hS438.blk.grown0 hi677)
           refine wpo_load1 (v := .int .i64 ((rAt (mAt ms ((k114 - 1).toNat)).t.slots ((aa).toNat)).th)) ot_3 rfl (k679.cell rfl) rfl ?_
           exact wpo_nil ⟨rfl, hi677⟩
          refine yll_cons rfl (fun w680 hi681 => ?_) ?_
          ·
           have hb682 := low0 hb439 hi681
           refine wpo_run rfl rfl rfl h461 ?_
           refine wpo_move (v := .slice ta ms.length tc) e420 rfl ?_
           exact wpo_nil ⟨rfl, hi681⟩
          refine yll_cons rfl (fun w683 hi684 => ?_) ?_
          ·
           have hb685 := low0 hb439 hi684
           refine wpo_run rfl rfl rfl h461 ?_
           refine wpo_len (by kernel_rfl) rfl rfl ?_
           exact wpo_nil ⟨rfl, hi684⟩
          refine yll_cons rfl (fun w686 hi687 => ?_) ?_
          ·
           have hb688 := low0 hb439 hi687
           refine wpo_run rfl rfl rfl h461 ?_
           refine wpo_call (vs := [.int .i64 ((rAt (mAt ms ((k114 - 1).toNat)).t.slots ((aa).toNat)).th), .int .i64 1, .int .i64 (ms.length : Int)]) gf_85 (args_cons rfl (args_cons rfl (args_cons rfl args_nil))) rfl (l6In_c ((rAt (mAt ms ((k114 - 1).toNat)).t.slots ((aa).toNat)).th) 1 (ms.length : Int) _) ?_
           rintro _ w689 ⟨rfl, hg690⟩
           have hb691 := low0 hb688 hg690
           exact wpo_nil ⟨rfl, (grown_trans hi687 hg690)⟩
          refine yll_cons rfl (fun w692 hi693 => ?_) ?_
          ·
           have hb694 := low0 hb439 hi693
           refine wpo_run rfl rfl rfl h461 ?_
           refine wpo_move (v := .bool (inR ((rAt (mAt ms ((k114 - 1).toNat)).t.slots ((aa).toNat)).th) 1 (ms.length : Int))) rfl rfl ?_
           exact wpo_nil ⟨rfl, hi693⟩
          refine yll_cons rfl (fun w695 hi696 => ?_) ?_
          ·
           have hb697 := low0 hb439 hi696
           refine wpo_pass rfl rfl rfl h532 rfl ?_
           exact wpo_nil ⟨rfl, hi696⟩
          refine yll_cons rfl (fun w698 hi699 => ?_) ?_
          ·
           have hb700 := low0 hb439 hi699
           refine wpo_pass rfl rfl rfl h532 rfl ?_
           exact wpo_nil ⟨rfl, hi699⟩
          refine yll_cons rfl (fun w701 hi702 => ?_) ?_
          ·
           have hb703 := low0 hb439 hi702
           refine wpo_pass rfl rfl rfl h532 rfl ?_
           exact wpo_nil ⟨rfl, hi702⟩
          refine yll_cons rfl (fun w704 hi705 => ?_) ?_
          ·
           have hb706 := low0 hb439 hi705
           refine wpo_pass rfl rfl rfl h532 rfl ?_
           exact wpo_nil ⟨rfl, hi705⟩
          refine yll_cons rfl (fun w707 hi708 => ?_) ?_
          ·
           have hb709 := low0 hb439 hi708
           refine wpo_pass rfl rfl rfl h532 rfl ?_
           exact wpo_nil ⟨rfl, hi708⟩
          refine yll_cons rfl (fun w710 hi711 => ?_) ?_
          ·
           have hb712 := low0 hb439 hi711
           refine wpo_pass rfl rfl rfl h532 rfl ?_
           exact wpo_nil ⟨rfl, hi711⟩
          refine yll_cons rfl (fun w713 hi714 => ?_) ?_
          ·
           have hb715 := low0 hb439 hi714
           refine wpo_pass rfl rfl rfl h532 rfl ?_
           exact wpo_nil ⟨rfl, hi714⟩
          refine yll_cons rfl (fun w716 hi717 => ?_) ?_
          ·
           have hb718 := low0 hb439 hi717
           refine wpo_pass rfl rfl rfl h532 rfl ?_
           exact wpo_nil ⟨rfl, hi717⟩
          refine yll_cons rfl (fun w719 hi720 => ?_) ?_
          ·
           have hb721 := low0 hb439 hi720
           refine wpo_pass rfl rfl rfl h532 rfl ?_
           exact wpo_nil ⟨rfl, hi720⟩
          exact yll_nil
         ·
          intro w722 hi723
          have hb724 := low0 hb439 hi723
          refine wpo_pass rfl rfl rfl h532 rfl ?_
          refine wpo_run rfl rfl rfl h461 ?_
          refine wpo_pickf (v := .bool false) rfl h532 rfl rfl ?_
          refine wpo_pickf (v := .bool false) rfl h461 rfl rfl ?_
          exact wpo_nil (thn_n ⟨⟨e419, e420, e421, e422, e423, (congrArg Value.bool (by first | (simp only [h190, h199, h206, h218, h461, h532, b0, b1, b2, b3, b4, b5, b6, b7, b8, b9]; done) | simp [h190, h199, h206, h218, h461, h532]))⟩, hi723⟩)
      ·
       rintro f725 w726 ⟨⟨e727, e728, e729, e730, e731, e732⟩, hg733⟩
       have hb734 := low0 hb439 hg733
       refine wpf_cond e732 (fun h735 => ?_) (fun h735 => ?_)
       ·
        refine wpf_exit ?_
        refine thn_e ?_
        refine blk_x (by decide) ?_
        refine thn_e ?_
        refine thn_e ?_
        refine blk_e ?_
        refine thn_n ?_
        refine wpf_seq ?_
        refine wpf_seq_region ?_
        refine wpo_move (v := .pointer (some ⟨R, 0, none⟩)) e727 rfl ?_
        have k736 := ((((kR195.grown0 hg204).grown0 hi418).grown hS438.grw (some_ne (by omega))).grown0 hg733)
        refine wpo_call (vs := [.pointer (some ⟨R, 0, none⟩), .int .i64 50]) gf_60 (args_cons rfl (args_cons rfl args_nil)) rfl (pick_c (p1 + 1) 50 (by omega) _ R bs _ _ _ k736 (by omega) (SlLt.low1 hs hb734 hlo) (by first | exact hb | exact fun b h => hb b (List.mem_of_mem_take h)) (by first | omega | (rw [List.length_take]; omega))) ?_
        rintro _ w742 ⟨k737, rfl, hk738, hk739, kR740, hg741⟩
        have hb743 := grown_trans hb734 hg741
        refine wpo_nil ?_
        refine wpf_block ?_
        refine wpf_seq_region ?_
        refine wpo_eql (q := decide (k737 = 0)) rfl rfl rfl rfl ?_
        refine wpo_assign (v := .bool (decide (k737 = 0))) rfl rfl ?_
        refine wpo_nil ?_
        refine wpf_cond rfl (fun h744 => ?_) (fun h744 => ?_)
        ·
         have h745 := of_decide_eq_true h744
         refine wpf_region ?_
         refine wpo_buildSlice (ps := [(0, .int .i64 0), (1, .int .i64 10)]) (e := 3) (cs := (([0, 10] : List Int).flatMap icell).toArray) (parts_cons rfl (parts_cons rfl parts_nil)) (fun _ => by kernel_rfl) rfl ?_
         intro B746 w747 hN748
         have hlB746 := hN_ge hN748 hb743
         have hhiB746 : hi ≤ B746 := Nat.le_trans (Nat.le_trans (Nat.le_trans (Nat.le_trans (Nat.le_trans (Nat.le_trans (Nat.le_trans hhs hg196.size) hg204.size) hi418.size) hS438.grw.size) hg733.size) hg741.size) (Nat.le_of_eq hN748.eq.symm)
         have k749 := ((((((k164.grown hg196 (some_ne (by omega))).grown0 hg204).grown0 hi418).grown hS438.grw (some_ne (by omega))).grown0 hg733).grown hg741 (some_ne (by omega)))
         have lt_B101_B746 := hN_gtl hN748 (k749).lt
         have k750 := ((((k207.grown0 hi418).grown hS438.grw (some_ne (by omega))).grown0 hg733).grown hg741 (some_ne (by omega)))
         have lt_B144_B746 := hN_gtl hN748 (k750).lt
         have lt_R_B746 := hN_gtl hN748 (kR740).lt
         have k751 := ((hS438.blk.grown0 hg733).grown hg741 (some_ne (by omega)))
         have lt_B268_B746 := hN_gtl hN748 (k751).lt
         have hb752 := low0 hb743 hN748.grw
         refine wpo_move (v := .pointer (some ⟨R, 0, none⟩)) e727 rfl ?_
         have k753 := (kR740.grown0 hN748.grw)
         refine wpo_call (vs := [.pointer (some ⟨R, 0, none⟩), .int .i64 2]) gf_60 (args_cons rfl (args_cons rfl args_nil)) rfl (pick_c (p1 + 1 + 1) 2 (by omega) _ R bs _ _ _ k753 (by omega) (SlLt.low1 hs hb752 hlo) (by first | exact hb | exact fun b h => hb b (List.mem_of_mem_take h)) (by first | omega | (rw [List.length_take]; omega))) ?_
         rintro _ w759 ⟨k754, rfl, hk755, hk756, kR757, hg758⟩
         have hb760 := grown_trans hb752 hg758
         refine wpo_indexAddr (o' := (k754).toNat * 1) es_43 rfl rfl (by omega) (by omega) (by omega) rfl ?_
         have k761 := (hN748.blk.grown hg758 (some_ne (by omega)))
         obtain ⟨x762, hx763⟩ := get_lt (l := ([0, 10] : List Int)) (i := (k754).toNat) (show (k754).toNat < 2 by omega)
         have hm764 := List.mem_of_getElem? hx763
         simp only [List.mem_cons, List.not_mem_nil, or_false] at hm764
         refine wpo_load1 (v := .int .i64 x762) ot_3 rfl ((rows_range wide_int k761 hx763) 0 _ rfl) rfl ?_
         refine wpo_fieldAddr (o' := 0) fo_76_0 e730 rfl rfl ?_
         have k765 := ((k750.grown0 hN748.grw).grown hg758 (some_ne (by omega)))
         refine wpo_store1 (v := .int .i64 x762) (cs' := #[.int .i64 x762, .int .i64 k114, .int .i64 aa, .int .i64 k130, .int .i64 k137]) ot_3 rfl rfl rfl k765 (Nat.le_of_ble_eq_true rfl) rfl ?_
         intro w766 hS767
         have hb768 := low1 hb760 hS767.grw (by omega)
         refine wpo_nil ?_
         refine blk_n ?_
         refine thn_n ?_
         refine wpf_seq_region ?_
         refine wpo_loadn (vs := [.int .i64 x762, .int .i64 k114, .int .i64 aa, .int .i64 k130, .int .i64 k137]) rt_76 e730 rfl (hS767.blk.rangeL 0 5 rfl) rfl ?_
         have k769 := (((k749.grown0 hN748.grw).grown hg758 (some_ne (by omega))).grown hS767.grw (some_ne (by omega)))
         refine wpo_storen (vs := [.int .i64 x762, .int .i64 k114, .int .i64 aa, .int .i64 k130, .int .i64 k137]) (cs' := #[.int .i64 x762, .int .i64 k114, .int .i64 aa, .int .i64 k130, .int .i64 k137]) rt_76 e729 rfl rfl (by simp [Value.oneCell']) k769 (Nat.le_of_ble_eq_true rfl) rfl ?_
         intro w770 hS771
         have hb772 := low1 hb768 hS771.grw (by omega)
         refine wpo_nil ?_
         refine wpf_ret ?_
         have k773 := ((kR757.grown hS767.grw (some_ne (by omega))).grown hS771.grw (some_ne (by omega)))
         refine ⟨.agg #[.int .i64 x762, .int .i64 k114, .int .i64 aa, .int .i64 k130, .int .i64 k137], resC rfl (resCell_mk (vs := [.int .i64 x762, .int .i64 k114, .int .i64 aa, .int .i64 k130, .int .i64 k137]) rt_76 e729 rfl (hS771.blk.rangeL 0 5 rfl)), ⟨x762, k114, aa, k130, k137⟩, (p1 + 1 + 1 + 1), rfl, ⟨⟨show (0 : Int) ≤ x762 by omega, show x762 ≤ (10 : Int) by omega⟩, ⟨show (1 : Int) ≤ k114 by omega, show k114 ≤ (ms.length : Int) by omega⟩, ⟨show (-1 : Int) ≤ aa by omega, show aa ≤ (4 : Int) by omega⟩, ⟨show (0 : Int) ≤ k130 by omega, show k130 ≤ (3 : Int) by omega⟩, show (-1 : Int) ≤ k137 by omega, show k137 ≤ (100 : Int) by omega⟩, by omega, by omega, k773, hb772⟩
        ·
         have h774 := of_decide_eq_false h744
         refine wpf_seq_region ?_
         refine wpo_eql (q := decide (k737 = 1)) rfl rfl rfl rfl ?_
         refine wpo_assign (v := .bool (decide (k737 = 1))) rfl rfl ?_
         refine wpo_nil ?_
         refine wpf_cond rfl (fun h775 => ?_) (fun h775 => ?_)
         ·
          have h776 := of_decide_eq_true h775
          refine wpf_region ?_
          refine wpo_buildSlice (ps := [(0, .int .i64 (-1)), (1, .int .i64 4)]) (e := 3) (cs := (([(-1), 4] : List Int).flatMap icell).toArray) (parts_cons rfl (parts_cons rfl parts_nil)) (fun _ => by kernel_rfl) rfl ?_
          intro B777 w778 hN779
          have hlB777 := hN_ge hN779 hb743
          have hhiB777 : hi ≤ B777 := Nat.le_trans (Nat.le_trans (Nat.le_trans (Nat.le_trans (Nat.le_trans (Nat.le_trans (Nat.le_trans hhs hg196.size) hg204.size) hi418.size) hS438.grw.size) hg733.size) hg741.size) (Nat.le_of_eq hN779.eq.symm)
          have k780 := ((((((k164.grown hg196 (some_ne (by omega))).grown0 hg204).grown0 hi418).grown hS438.grw (some_ne (by omega))).grown0 hg733).grown hg741 (some_ne (by omega)))
          have lt_B101_B777 := hN_gtl hN779 (k780).lt
          have k781 := ((((k207.grown0 hi418).grown hS438.grw (some_ne (by omega))).grown0 hg733).grown hg741 (some_ne (by omega)))
          have lt_B144_B777 := hN_gtl hN779 (k781).lt
          have lt_R_B777 := hN_gtl hN779 (kR740).lt
          have k782 := ((hS438.blk.grown0 hg733).grown hg741 (some_ne (by omega)))
          have lt_B268_B777 := hN_gtl hN779 (k782).lt
          have hb783 := low0 hb743 hN779.grw
          refine wpo_move (v := .pointer (some ⟨R, 0, none⟩)) e727 rfl ?_
          have k784 := (kR740.grown0 hN779.grw)
          refine wpo_call (vs := [.pointer (some ⟨R, 0, none⟩), .int .i64 2]) gf_60 (args_cons rfl (args_cons rfl args_nil)) rfl (pick_c (p1 + 1 + 1) 2 (by omega) _ R bs _ _ _ k784 (by omega) (SlLt.low1 hs hb783 hlo) (by first | exact hb | exact fun b h => hb b (List.mem_of_mem_take h)) (by first | omega | (rw [List.length_take]; omega))) ?_
          rintro _ w790 ⟨k785, rfl, hk786, hk787, kR788, hg789⟩
          have hb791 := grown_trans hb783 hg789
          refine wpo_indexAddr (o' := (k785).toNat * 1) es_43 rfl rfl (by omega) (by omega) (by omega) rfl ?_
          have k792 := (hN779.blk.grown hg789 (some_ne (by omega)))
          obtain ⟨x793, hx794⟩ := get_lt (l := ([(-1), 4] : List Int)) (i := (k785).toNat) (show (k785).toNat < 2 by omega)
          have hm795 := List.mem_of_getElem? hx794
          simp only [List.mem_cons, List.not_mem_nil, or_false] at hm795
          refine wpo_load1 (v := .int .i64 x793) ot_3 rfl ((rows_range wide_int k792 hx794) 0 _ rfl) rfl ?_
          refine wpo_fieldAddr (o' := 2) fo_76_2 e730 rfl rfl ?_
          have k796 := ((k781.grown0 hN779.grw).grown hg789 (some_ne (by omega)))
          refine wpo_store1 (v := .int .i64 x793) (cs' := #[.int .i64 kk, .int .i64 k114, .int .i64 x793, .int .i64 k130, .int .i64 k137]) ot_3 rfl rfl rfl k796 (Nat.le_of_ble_eq_true rfl) rfl ?_
          intro w797 hS798
          have hb799 := low1 hb791 hS798.grw (by omega)
          refine wpo_nil ?_
          refine blk_n ?_
          refine thn_n ?_
          refine wpf_seq_region ?_
          refine wpo_loadn (vs := [.int .i64 kk, .int .i64 k114, .int .i64 x793, .int .i64 k130, .int .i64 k137]) rt_76 e730 rfl (hS798.blk.rangeL 0 5 rfl) rfl ?_
          have k800 := (((k780.grown0 hN779.grw).grown hg789 (some_ne (by omega))).grown hS798.grw (some_ne (by omega)))
          refine wpo_storen (vs := [.int .i64 kk, .int .i64 k114, .int .i64 x793, .int .i64 k130, .int .i64 k137]) (cs' := #[.int .i64 kk, .int .i64 k114, .int .i64 x793, .int .i64 k130, .int .i64 k137]) rt_76 e729 rfl rfl (by simp [Value.oneCell']) k800 (Nat.le_of_ble_eq_true rfl) rfl ?_
          intro w801 hS802
          have hb803 := low1 hb799 hS802.grw (by omega)
          refine wpo_nil ?_
          refine wpf_ret ?_
          have k804 := ((kR788.grown hS798.grw (some_ne (by omega))).grown hS802.grw (some_ne (by omega)))
          refine ⟨.agg #[.int .i64 kk, .int .i64 k114, .int .i64 x793, .int .i64 k130, .int .i64 k137], resC rfl (resCell_mk (vs := [.int .i64 kk, .int .i64 k114, .int .i64 x793, .int .i64 k130, .int .i64 k137]) rt_76 e729 rfl (hS802.blk.rangeL 0 5 rfl)), ⟨kk, k114, x793, k130, k137⟩, (p1 + 1 + 1 + 1), rfl, ⟨⟨show (0 : Int) ≤ kk by omega, show kk ≤ (10 : Int) by omega⟩, ⟨show (1 : Int) ≤ k114 by omega, show k114 ≤ (ms.length : Int) by omega⟩, ⟨show (-1 : Int) ≤ x793 by omega, show x793 ≤ (4 : Int) by omega⟩, ⟨show (0 : Int) ≤ k130 by omega, show k130 ≤ (3 : Int) by omega⟩, show (-1 : Int) ≤ k137 by omega, show k137 ≤ (100 : Int) by omega⟩, by omega, by omega, k804, hb803⟩
         ·
          have h805 := of_decide_eq_false h775
          refine wpf_seq_region ?_
          refine wpo_eql (q := decide (k737 = 2)) rfl rfl rfl rfl ?_
          refine wpo_assign (v := .bool (decide (k737 = 2))) rfl rfl ?_
          refine wpo_nil ?_
          refine wpf_cond rfl (fun h806 => ?_) (fun h806 => ?_)
          ·
           have h807 := of_decide_eq_true h806
           refine wpf_region ?_
           refine wpo_buildSlice (ps := [(0, .int .i64 (-1)), (1, .int .i64 100)]) (e := 3) (cs := (([(-1), 100] : List Int).flatMap icell).toArray) (parts_cons rfl (parts_cons rfl parts_nil)) (fun _ => by kernel_rfl) rfl ?_
           intro B808 w809 hN810
           have hlB808 := hN_ge hN810 hb743
           have hhiB808 : hi ≤ B808 := Nat.le_trans (Nat.le_trans (Nat.le_trans (Nat.le_trans (Nat.le_trans (Nat.le_trans (Nat.le_trans hhs hg196.size) hg204.size) hi418.size) hS438.grw.size) hg733.size) hg741.size) (Nat.le_of_eq hN810.eq.symm)
           have k811 := ((((((k164.grown hg196 (some_ne (by omega))).grown0 hg204).grown0 hi418).grown hS438.grw (some_ne (by omega))).grown0 hg733).grown hg741 (some_ne (by omega)))
           have lt_B101_B808 := hN_gtl hN810 (k811).lt
           have k812 := ((((k207.grown0 hi418).grown hS438.grw (some_ne (by omega))).grown0 hg733).grown hg741 (some_ne (by omega)))
           have lt_B144_B808 := hN_gtl hN810 (k812).lt
           have lt_R_B808 := hN_gtl hN810 (kR740).lt
           have k813 := ((hS438.blk.grown0 hg733).grown hg741 (some_ne (by omega)))
           have lt_B268_B808 := hN_gtl hN810 (k813).lt
           have hb814 := low0 hb743 hN810.grw
           refine wpo_move (v := .pointer (some ⟨R, 0, none⟩)) e727 rfl ?_
           have k815 := (kR740.grown0 hN810.grw)
           refine wpo_call (vs := [.pointer (some ⟨R, 0, none⟩), .int .i64 2]) gf_60 (args_cons rfl (args_cons rfl args_nil)) rfl (pick_c (p1 + 1 + 1) 2 (by omega) _ R bs _ _ _ k815 (by omega) (SlLt.low1 hs hb814 hlo) (by first | exact hb | exact fun b h => hb b (List.mem_of_mem_take h)) (by first | omega | (rw [List.length_take]; omega))) ?_
           rintro _ w821 ⟨k816, rfl, hk817, hk818, kR819, hg820⟩
           have hb822 := grown_trans hb814 hg820
           refine wpo_indexAddr (o' := (k816).toNat * 1) es_43 rfl rfl (by omega) (by omega) (by omega) rfl ?_
           have k823 := (hN810.blk.grown hg820 (some_ne (by omega)))
           obtain ⟨x824, hx825⟩ := get_lt (l := ([(-1), 100] : List Int)) (i := (k816).toNat) (show (k816).toNat < 2 by omega)
           have hm826 := List.mem_of_getElem? hx825
           simp only [List.mem_cons, List.not_mem_nil, or_false] at hm826
           refine wpo_load1 (v := .int .i64 x824) ot_3 rfl ((rows_range wide_int k823 hx825) 0 _ rfl) rfl ?_
           refine wpo_fieldAddr (o' := 4) fo_76_4 e730 rfl rfl ?_
           have k827 := ((k812.grown0 hN810.grw).grown hg820 (some_ne (by omega)))
           refine wpo_store1 (v := .int .i64 x824) (cs' := #[.int .i64 kk, .int .i64 k114, .int .i64 aa, .int .i64 k130, .int .i64 x824]) ot_3 rfl rfl rfl k827 (Nat.le_of_ble_eq_true rfl) rfl ?_
           intro w828 hS829
           have hb830 := low1 hb822 hS829.grw (by omega)
           refine wpo_nil ?_
           refine blk_n ?_
           refine thn_n ?_
           refine wpf_seq_region ?_
           refine wpo_loadn (vs := [.int .i64 kk, .int .i64 k114, .int .i64 aa, .int .i64 k130, .int .i64 x824]) rt_76 e730 rfl (hS829.blk.rangeL 0 5 rfl) rfl ?_
           have k831 := (((k811.grown0 hN810.grw).grown hg820 (some_ne (by omega))).grown hS829.grw (some_ne (by omega)))
           refine wpo_storen (vs := [.int .i64 kk, .int .i64 k114, .int .i64 aa, .int .i64 k130, .int .i64 x824]) (cs' := #[.int .i64 kk, .int .i64 k114, .int .i64 aa, .int .i64 k130, .int .i64 x824]) rt_76 e729 rfl rfl (by simp [Value.oneCell']) k831 (Nat.le_of_ble_eq_true rfl) rfl ?_
           intro w832 hS833
           have hb834 := low1 hb830 hS833.grw (by omega)
           refine wpo_nil ?_
           refine wpf_ret ?_
           have k835 := ((kR819.grown hS829.grw (some_ne (by omega))).grown hS833.grw (some_ne (by omega)))
           refine ⟨.agg #[.int .i64 kk, .int .i64 k114, .int .i64 aa, .int .i64 k130, .int .i64 x824], resC rfl (resCell_mk (vs := [.int .i64 kk, .int .i64 k114, .int .i64 aa, .int .i64 k130, .int .i64 x824]) rt_76 e729 rfl (hS833.blk.rangeL 0 5 rfl)), ⟨kk, k114, aa, k130, x824⟩, (p1 + 1 + 1 + 1), rfl, ⟨⟨show (0 : Int) ≤ kk by omega, show kk ≤ (10 : Int) by omega⟩, ⟨show (1 : Int) ≤ k114 by omega, show k114 ≤ (ms.length : Int) by omega⟩, ⟨show (-1 : Int) ≤ aa by omega, show aa ≤ (4 : Int) by omega⟩, ⟨show (0 : Int) ≤ k130 by omega, show k130 ≤ (3 : Int) by omega⟩, show (-1 : Int) ≤ x824 by omega, show x824 ≤ (100 : Int) by omega⟩, by omega, by omega, k835, hb834⟩
          ·
           have h836 := of_decide_eq_false h806
           refine wpf_skip ?_
           refine blk_n ?_
           refine thn_n ?_
           refine wpf_seq_region ?_
           have k837 := ((((k207.grown0 hi418).grown hS438.grw (some_ne (by omega))).grown0 hg733).grown hg741 (some_ne (by omega)))
           refine wpo_loadn (vs := [.int .i64 kk, .int .i64 k114, .int .i64 aa, .int .i64 k130, .int .i64 k137]) rt_76 e730 rfl (k837.rangeL 0 5 rfl) rfl ?_
           have k838 := ((((((k164.grown hg196 (some_ne (by omega))).grown0 hg204).grown0 hi418).grown hS438.grw (some_ne (by omega))).grown0 hg733).grown hg741 (some_ne (by omega)))
           refine wpo_storen (vs := [.int .i64 kk, .int .i64 k114, .int .i64 aa, .int .i64 k130, .int .i64 k137]) (cs' := #[.int .i64 kk, .int .i64 k114, .int .i64 aa, .int .i64 k130, .int .i64 k137]) rt_76 e729 rfl rfl (by simp [Value.oneCell']) k838 (Nat.le_of_ble_eq_true rfl) rfl ?_
           intro w839 hS840
           have hb841 := low1 hb743 hS840.grw (by omega)
           refine wpo_nil ?_
           refine wpf_ret ?_
           have k842 := (kR740.grown hS840.grw (some_ne (by omega)))
           refine ⟨.agg #[.int .i64 kk, .int .i64 k114, .int .i64 aa, .int .i64 k130, .int .i64 k137], resC rfl (resCell_mk (vs := [.int .i64 kk, .int .i64 k114, .int .i64 aa, .int .i64 k130, .int .i64 k137]) rt_76 e729 rfl (hS840.blk.rangeL 0 5 rfl)), ⟨kk, k114, aa, k130, k137⟩, (p1 + 1 + 1), rfl, ⟨⟨show (0 : Int) ≤ kk by omega, show kk ≤ (10 : Int) by omega⟩, ⟨show (1 : Int) ≤ k114 by omega, show k114 ≤ (ms.length : Int) by omega⟩, ⟨show (-1 : Int) ≤ aa by omega, show aa ≤ (4 : Int) by omega⟩, ⟨show (0 : Int) ≤ k130 by omega, show k130 ≤ (3 : Int) by omega⟩, show (-1 : Int) ≤ k137 by omega, show k137 ≤ (100 : Int) by omega⟩, by omega, by omega, k842, hb841⟩
       ·
        have h843 := or_l h735
        have h844 := of_decide_eq_false h843
        have h845 := or_r h735
        refine wpf_skip ?_
        refine thn_n ?_
        refine wpf_seq_region ?_
        refine wpo_move (v := .pointer (some ⟨R, 0, none⟩)) e727 rfl ?_
        have k846 := ((((kR195.grown0 hg204).grown0 hi418).grown hS438.grw (some_ne (by omega))).grown0 hg733)
        refine wpo_call (vs := [.pointer (some ⟨R, 0, none⟩), .int .i64 4]) gf_60 (args_cons rfl (args_cons rfl args_nil)) rfl (pick_c (p1 + 1) 4 (by omega) _ R bs _ _ _ k846 (by omega) (SlLt.low1 hs hb734 hlo) (by first | exact hb | exact fun b h => hb b (List.mem_of_mem_take h)) (by first | omega | (rw [List.length_take]; omega))) ?_
        rintro _ w852 ⟨k847, rfl, hk848, hk849, kR850, hg851⟩
        have hb853 := grown_trans hb734 hg851
        refine wpo_fieldAddr (o' := 2) fo_76_2 e730 rfl rfl ?_
        have k854 := ((((k207.grown0 hi418).grown hS438.grw (some_ne (by omega))).grown0 hg733).grown hg851 (some_ne (by omega)))
        refine wpo_store1 (v := .int .i64 k847) (cs' := #[.int .i64 kk, .int .i64 k114, .int .i64 k847, .int .i64 k130, .int .i64 k137]) ot_3 rfl rfl rfl k854 (Nat.le_of_ble_eq_true rfl) rfl ?_
        intro w855 hS856
        have hb857 := low1 hb853 hS856.grw (by omega)
        refine wpo_nil ?_
        refine wpf_region ?_
        refine wpo_move (v := .pointer (some ⟨R, 0, none⟩)) e727 rfl ?_
        have k858 := (kR850.grown hS856.grw (some_ne (by omega)))
        refine wpo_call (vs := [.pointer (some ⟨R, 0, none⟩), .int .i64 9]) gf_60 (args_cons rfl (args_cons rfl args_nil)) rfl (pick_c (p1 + 1 + 1) 9 (by omega) _ R bs _ _ _ k858 (by omega) (SlLt.low1 hs hb857 hlo) (by first | exact hb | exact fun b h => hb b (List.mem_of_mem_take h)) (by first | omega | (rw [List.length_take]; omega))) ?_
        rintro _ w864 ⟨k859, rfl, hk860, hk861, kR862, hg863⟩
        have hb865 := grown_trans hb857 hg863
        refine wpo_add (c := 1 + k859) rfl rfl (by omega) (by omega) (by omega) rfl ?_
        refine wpo_fieldAddr (o' := 0) fo_76_0 e730 rfl rfl ?_
        have k866 := (hS856.blk.grown hg863 (some_ne (by omega)))
        refine wpo_store1 (v := .int .i64 (1 + k859)) (cs' := #[.int .i64 (1 + k859), .int .i64 k114, .int .i64 k847, .int .i64 k130, .int .i64 k137]) ot_3 rfl rfl rfl k866 (Nat.le_of_ble_eq_true rfl) rfl ?_
        intro w867 hS868
        have hb869 := low1 hb865 hS868.grw (by omega)
        refine wpo_nil ?_
        refine blk_n ?_
        refine thn_n ?_
        refine wpf_region ?_
        refine wpo_move (v := .int .i64 (i : Int)) e731 rfl ?_
        refine wpo_add (c := (i : Int) + 1) rfl rfl (by omega) (by omega) (by omega) rfl ?_
        refine wpo_assign (v := .int .i64 ((i : Int) + 1)) rfl rfl ?_
        refine wpo_nil ?_
        refine thn_n ?_
        have hTG870 := (TabG.ge (TabG.lt (TabG.ge (TabG.lt (TabG.low (TabG.ge (TabG.low hTG216 hi418) hS438.grw hTH (by omega)) hg733) hg851 (by omega)) hS856.grw hTH (by omega)) hg863 (by omega)) hS868.grw hTH (by omega))
        have k871 := (((((((((k164.grown hg196 (some_ne (by omega))).grown0 hg204).grown0 hi418).grown hS438.grw (some_ne (by omega))).grown0 hg733).grown hg851 (some_ne (by omega))).grown hS856.grw (some_ne (by omega))).grown hg863 (some_ne (by omega))).grown hS868.grw (some_ne (by omega)))
        have k872 := (kR862.grown hS868.grw (some_ne (by omega)))
        exact ⟨6 - (i + 1), by omega, (i + 1), (p1 + 1 + 1 + 1), (1 + k859), k847, rfl, (by omega), (by omega), (by omega), (by omega), hTG870, (Nat.le_trans (Nat.le_trans (Nat.le_trans (Nat.le_trans (Nat.le_trans (Nat.le_trans (Nat.le_trans (Nat.le_trans (Nat.le_trans hhs hg196.size) hg204.size) hi418.size) hS438.grw.size) hg733.size) hg851.size) hS856.grw.size) hg863.size) hS868.grw.size), rfl, e727, e728, e729, e730, hb869, k871, hS868.blk, k872⟩
    ·
     have h873 := of_decide_eq_false h218
     refine wpf_exit ?_
     refine thn_e ?_
     refine thn_e ?_
     refine blk_e ?_
     refine thn_n ?_
     refine wpf_seq ?_
     refine wpf_seq_region ?_
     refine wpo_move (v := .pointer (some ⟨R, 0, none⟩)) e160 rfl ?_
     have k874 := (kR195.grown0 hg204)
     refine wpo_call (vs := [.pointer (some ⟨R, 0, none⟩), .int .i64 50]) gf_60 (args_cons rfl (args_cons rfl args_nil)) rfl (pick_c (p1 + 1) 50 (by omega) _ R bs _ _ _ k874 (by omega) (SlLt.low1 hs hb205 hlo) (by first | exact hb | exact fun b h => hb b (List.mem_of_mem_take h)) (by first | omega | (rw [List.length_take]; omega))) ?_
     rintro _ w880 ⟨k875, rfl, hk876, hk877, kR878, hg879⟩
     have hb881 := grown_trans hb205 hg879
     refine wpo_nil ?_
     refine wpf_block ?_
     refine wpf_seq_region ?_
     refine wpo_eql (q := decide (k875 = 0)) rfl rfl rfl rfl ?_
     refine wpo_assign (v := .bool (decide (k875 = 0))) rfl rfl ?_
     refine wpo_nil ?_
     refine wpf_cond rfl (fun h882 => ?_) (fun h882 => ?_)
     ·
      have h883 := of_decide_eq_true h882
      refine wpf_region ?_
      refine wpo_buildSlice (ps := [(0, .int .i64 0), (1, .int .i64 10)]) (e := 3) (cs := (([0, 10] : List Int).flatMap icell).toArray) (parts_cons rfl (parts_cons rfl parts_nil)) (fun _ => by kernel_rfl) rfl ?_
      intro B884 w885 hN886
      have hlB884 := hN_ge hN886 hb881
      have hhiB884 : hi ≤ B884 := Nat.le_trans (Nat.le_trans (Nat.le_trans (Nat.le_trans hhs hg196.size) hg204.size) hg879.size) (Nat.le_of_eq hN886.eq.symm)
      have k887 := (((k164.grown hg196 (some_ne (by omega))).grown0 hg204).grown hg879 (some_ne (by omega)))
      have lt_B101_B884 := hN_gtl hN886 (k887).lt
      have k888 := (k207.grown hg879 (some_ne (by omega)))
      have lt_B144_B884 := hN_gtl hN886 (k888).lt
      have lt_R_B884 := hN_gtl hN886 (kR878).lt
      have hb889 := low0 hb881 hN886.grw
      refine wpo_move (v := .pointer (some ⟨R, 0, none⟩)) e160 rfl ?_
      have k890 := (kR878.grown0 hN886.grw)
      refine wpo_call (vs := [.pointer (some ⟨R, 0, none⟩), .int .i64 2]) gf_60 (args_cons rfl (args_cons rfl args_nil)) rfl (pick_c (p1 + 1 + 1) 2 (by omega) _ R bs _ _ _ k890 (by omega) (SlLt.low1 hs hb889 hlo) (by first | exact hb | exact fun b h => hb b (List.mem_of_mem_take h)) (by first | omega | (rw [List.length_take]; omega))) ?_
      rintro _ w896 ⟨k891, rfl, hk892, hk893, kR894, hg895⟩
      have hb897 := grown_trans hb889 hg895
      refine wpo_indexAddr (o' := (k891).toNat * 1) es_43 rfl rfl (by omega) (by omega) (by omega) rfl ?_
      have k898 := (hN886.blk.grown hg895 (some_ne (by omega)))
      obtain ⟨x899, hx900⟩ := get_lt (l := ([0, 10] : List Int)) (i := (k891).toNat) (show (k891).toNat < 2 by omega)
      have hm901 := List.mem_of_getElem? hx900
      simp only [List.mem_cons, List.not_mem_nil, or_false] at hm901
      refine wpo_load1 (v := .int .i64 x899) ot_3 rfl ((rows_range wide_int k898 hx900) 0 _ rfl) rfl ?_
      refine wpo_fieldAddr (o' := 0) fo_76_0 e163 rfl rfl ?_
      have k902 := ((k888.grown0 hN886.grw).grown hg895 (some_ne (by omega)))
      refine wpo_store1 (v := .int .i64 x899) (cs' := #[.int .i64 x899, .int .i64 k114, .int .i64 aa, .int .i64 k130, .int .i64 k137]) ot_3 rfl rfl rfl k902 (Nat.le_of_ble_eq_true rfl) rfl ?_
      intro w903 hS904
      have hb905 := low1 hb897 hS904.grw (by omega)
      refine wpo_nil ?_
      refine blk_n ?_
      refine thn_n ?_
      refine wpf_seq_region ?_
      refine wpo_loadn (vs := [.int .i64 x899, .int .i64 k114, .int .i64 aa, .int .i64 k130, .int .i64 k137]) rt_76 e163 rfl (hS904.blk.rangeL 0 5 rfl) rfl ?_
      have k906 := (((k887.grown0 hN886.grw).grown hg895 (some_ne (by omega))).grown hS904.grw (some_ne (by omega)))
      refine wpo_storen (vs := [.int .i64 x899, .int .i64 k114, .int .i64 aa, .int .i64 k130, .int .i64 k137]) (cs' := #[.int .i64 x899, .int .i64 k114, .int .i64 aa, .int .i64 k130, .int .i64 k137]) rt_76 e162 rfl rfl (by simp [Value.oneCell']) k906 (Nat.le_of_ble_eq_true rfl) rfl ?_
      intro w907 hS908
      have hb909 := low1 hb905 hS908.grw (by omega)
      refine wpo_nil ?_
      refine wpf_ret ?_
      have k910 := ((kR894.grown hS904.grw (some_ne (by omega))).grown hS908.grw (some_ne (by omega)))
      refine ⟨.agg #[.int .i64 x899, .int .i64 k114, .int .i64 aa, .int .i64 k130, .int .i64 k137], resC rfl (resCell_mk (vs := [.int .i64 x899, .int .i64 k114, .int .i64 aa, .int .i64 k130, .int .i64 k137]) rt_76 e162 rfl (hS908.blk.rangeL 0 5 rfl)), ⟨x899, k114, aa, k130, k137⟩, (p1 + 1 + 1 + 1), rfl, ⟨⟨show (0 : Int) ≤ x899 by omega, show x899 ≤ (10 : Int) by omega⟩, ⟨show (1 : Int) ≤ k114 by omega, show k114 ≤ (ms.length : Int) by omega⟩, ⟨show (-1 : Int) ≤ aa by omega, show aa ≤ (4 : Int) by omega⟩, ⟨show (0 : Int) ≤ k130 by omega, show k130 ≤ (3 : Int) by omega⟩, show (-1 : Int) ≤ k137 by omega, show k137 ≤ (100 : Int) by omega⟩, by omega, by omega, k910, hb909⟩
     ·
      have h911 := of_decide_eq_false h882
      refine wpf_seq_region ?_
      refine wpo_eql (q := decide (k875 = 1)) rfl rfl rfl rfl ?_
      refine wpo_assign (v := .bool (decide (k875 = 1))) rfl rfl ?_
      refine wpo_nil ?_
      refine wpf_cond rfl (fun h912 => ?_) (fun h912 => ?_)
      ·
       have h913 := of_decide_eq_true h912
       refine wpf_region ?_
       refine wpo_buildSlice (ps := [(0, .int .i64 (-1)), (1, .int .i64 4)]) (e := 3) (cs := (([(-1), 4] : List Int).flatMap icell).toArray) (parts_cons rfl (parts_cons rfl parts_nil)) (fun _ => by kernel_rfl) rfl ?_
       intro B914 w915 hN916
       have hlB914 := hN_ge hN916 hb881
       have hhiB914 : hi ≤ B914 := Nat.le_trans (Nat.le_trans (Nat.le_trans (Nat.le_trans hhs hg196.size) hg204.size) hg879.size) (Nat.le_of_eq hN916.eq.symm)
       have k917 := (((k164.grown hg196 (some_ne (by omega))).grown0 hg204).grown hg879 (some_ne (by omega)))
       have lt_B101_B914 := hN_gtl hN916 (k917).lt
       have k918 := (k207.grown hg879 (some_ne (by omega)))
       have lt_B144_B914 := hN_gtl hN916 (k918).lt
       have lt_R_B914 := hN_gtl hN916 (kR878).lt
       have hb919 := low0 hb881 hN916.grw
       refine wpo_move (v := .pointer (some ⟨R, 0, none⟩)) e160 rfl ?_
       have k920 := (kR878.grown0 hN916.grw)
       refine wpo_call (vs := [.pointer (some ⟨R, 0, none⟩), .int .i64 2]) gf_60 (args_cons rfl (args_cons rfl args_nil)) rfl (pick_c (p1 + 1 + 1) 2 (by omega) _ R bs _ _ _ k920 (by omega) (SlLt.low1 hs hb919 hlo) (by first | exact hb | exact fun b h => hb b (List.mem_of_mem_take h)) (by first | omega | (rw [List.length_take]; omega))) ?_
       rintro _ w926 ⟨k921, rfl, hk922, hk923, kR924, hg925⟩
       have hb927 := grown_trans hb919 hg925
       refine wpo_indexAddr (o' := (k921).toNat * 1) es_43 rfl rfl (by omega) (by omega) (by omega) rfl ?_
       have k928 := (hN916.blk.grown hg925 (some_ne (by omega)))
       obtain ⟨x929, hx930⟩ := get_lt (l := ([(-1), 4] : List Int)) (i := (k921).toNat) (show (k921).toNat < 2 by omega)
       have hm931 := List.mem_of_getElem? hx930
       simp only [List.mem_cons, List.not_mem_nil, or_false] at hm931
       refine wpo_load1 (v := .int .i64 x929) ot_3 rfl ((rows_range wide_int k928 hx930) 0 _ rfl) rfl ?_
       refine wpo_fieldAddr (o' := 2) fo_76_2 e163 rfl rfl ?_
       have k932 := ((k918.grown0 hN916.grw).grown hg925 (some_ne (by omega)))
       refine wpo_store1 (v := .int .i64 x929) (cs' := #[.int .i64 kk, .int .i64 k114, .int .i64 x929, .int .i64 k130, .int .i64 k137]) ot_3 rfl rfl rfl k932 (Nat.le_of_ble_eq_true rfl) rfl ?_
       intro w933 hS934
       have hb935 := low1 hb927 hS934.grw (by omega)
       refine wpo_nil ?_
       refine blk_n ?_
       refine thn_n ?_
       refine wpf_seq_region ?_
       refine wpo_loadn (vs := [.int .i64 kk, .int .i64 k114, .int .i64 x929, .int .i64 k130, .int .i64 k137]) rt_76 e163 rfl (hS934.blk.rangeL 0 5 rfl) rfl ?_
       have k936 := (((k917.grown0 hN916.grw).grown hg925 (some_ne (by omega))).grown hS934.grw (some_ne (by omega)))
       refine wpo_storen (vs := [.int .i64 kk, .int .i64 k114, .int .i64 x929, .int .i64 k130, .int .i64 k137]) (cs' := #[.int .i64 kk, .int .i64 k114, .int .i64 x929, .int .i64 k130, .int .i64 k137]) rt_76 e162 rfl rfl (by simp [Value.oneCell']) k936 (Nat.le_of_ble_eq_true rfl) rfl ?_
       intro w937 hS938
       have hb939 := low1 hb935 hS938.grw (by omega)
       refine wpo_nil ?_
       refine wpf_ret ?_
       have k940 := ((kR924.grown hS934.grw (some_ne (by omega))).grown hS938.grw (some_ne (by omega)))
       refine ⟨.agg #[.int .i64 kk, .int .i64 k114, .int .i64 x929, .int .i64 k130, .int .i64 k137], resC rfl (resCell_mk (vs := [.int .i64 kk, .int .i64 k114, .int .i64 x929, .int .i64 k130, .int .i64 k137]) rt_76 e162 rfl (hS938.blk.rangeL 0 5 rfl)), ⟨kk, k114, x929, k130, k137⟩, (p1 + 1 + 1 + 1), rfl, ⟨⟨show (0 : Int) ≤ kk by omega, show kk ≤ (10 : Int) by omega⟩, ⟨show (1 : Int) ≤ k114 by omega, show k114 ≤ (ms.length : Int) by omega⟩, ⟨show (-1 : Int) ≤ x929 by omega, show x929 ≤ (4 : Int) by omega⟩, ⟨show (0 : Int) ≤ k130 by omega, show k130 ≤ (3 : Int) by omega⟩, show (-1 : Int) ≤ k137 by omega, show k137 ≤ (100 : Int) by omega⟩, by omega, by omega, k940, hb939⟩
      ·
       have h941 := of_decide_eq_false h912
       refine wpf_seq_region ?_
       refine wpo_eql (q := decide (k875 = 2)) rfl rfl rfl rfl ?_
       refine wpo_assign (v := .bool (decide (k875 = 2))) rfl rfl ?_
       refine wpo_nil ?_
       refine wpf_cond rfl (fun h942 => ?_) (fun h942 => ?_)
       ·
        have h943 := of_decide_eq_true h942
        refine wpf_region ?_
        refine wpo_buildSlice (ps := [(0, .int .i64 (-1)), (1, .int .i64 100)]) (e := 3) (cs := (([(-1), 100] : List Int).flatMap icell).toArray) (parts_cons rfl (parts_cons rfl parts_nil)) (fun _ => by kernel_rfl) rfl ?_
        intro B944 w945 hN946
        have hlB944 := hN_ge hN946 hb881
        have hhiB944 : hi ≤ B944 := Nat.le_trans (Nat.le_trans (Nat.le_trans (Nat.le_trans hhs hg196.size) hg204.size) hg879.size) (Nat.le_of_eq hN946.eq.symm)
        have k947 := (((k164.grown hg196 (some_ne (by omega))).grown0 hg204).grown hg879 (some_ne (by omega)))
        have lt_B101_B944 := hN_gtl hN946 (k947).lt
        have k948 := (k207.grown hg879 (some_ne (by omega)))
        have lt_B144_B944 := hN_gtl hN946 (k948).lt
        have lt_R_B944 := hN_gtl hN946 (kR878).lt
        have hb949 := low0 hb881 hN946.grw
        refine wpo_move (v := .pointer (some ⟨R, 0, none⟩)) e160 rfl ?_
        have k950 := (kR878.grown0 hN946.grw)
        refine wpo_call (vs := [.pointer (some ⟨R, 0, none⟩), .int .i64 2]) gf_60 (args_cons rfl (args_cons rfl args_nil)) rfl (pick_c (p1 + 1 + 1) 2 (by omega) _ R bs _ _ _ k950 (by omega) (SlLt.low1 hs hb949 hlo) (by first | exact hb | exact fun b h => hb b (List.mem_of_mem_take h)) (by first | omega | (rw [List.length_take]; omega))) ?_
        rintro _ w956 ⟨k951, rfl, hk952, hk953, kR954, hg955⟩
        have hb957 := grown_trans hb949 hg955
        refine wpo_indexAddr (o' := (k951).toNat * 1) es_43 rfl rfl (by omega) (by omega) (by omega) rfl ?_
        have k958 := (hN946.blk.grown hg955 (some_ne (by omega)))
        obtain ⟨x959, hx960⟩ := get_lt (l := ([(-1), 100] : List Int)) (i := (k951).toNat) (show (k951).toNat < 2 by omega)
        have hm961 := List.mem_of_getElem? hx960
        simp only [List.mem_cons, List.not_mem_nil, or_false] at hm961
        refine wpo_load1 (v := .int .i64 x959) ot_3 rfl ((rows_range wide_int k958 hx960) 0 _ rfl) rfl ?_
        refine wpo_fieldAddr (o' := 4) fo_76_4 e163 rfl rfl ?_
        have k962 := ((k948.grown0 hN946.grw).grown hg955 (some_ne (by omega)))
        refine wpo_store1 (v := .int .i64 x959) (cs' := #[.int .i64 kk, .int .i64 k114, .int .i64 aa, .int .i64 k130, .int .i64 x959]) ot_3 rfl rfl rfl k962 (Nat.le_of_ble_eq_true rfl) rfl ?_
        intro w963 hS964
        have hb965 := low1 hb957 hS964.grw (by omega)
        refine wpo_nil ?_
        refine blk_n ?_
        refine thn_n ?_
        refine wpf_seq_region ?_
        refine wpo_loadn (vs := [.int .i64 kk, .int .i64 k114, .int .i64 aa, .int .i64 k130, .int .i64 x959]) rt_76 e163 rfl (hS964.blk.rangeL 0 5 rfl) rfl ?_
        have k966 := (((k947.grown0 hN946.grw).grown hg955 (some_ne (by omega))).grown hS964.grw (some_ne (by omega)))
        refine wpo_storen (vs := [.int .i64 kk, .int .i64 k114, .int .i64 aa, .int .i64 k130, .int .i64 x959]) (cs' := #[.int .i64 kk, .int .i64 k114, .int .i64 aa, .int .i64 k130, .int .i64 x959]) rt_76 e162 rfl rfl (by simp [Value.oneCell']) k966 (Nat.le_of_ble_eq_true rfl) rfl ?_
        intro w967 hS968
        have hb969 := low1 hb965 hS968.grw (by omega)
        refine wpo_nil ?_
        refine wpf_ret ?_
        have k970 := ((kR954.grown hS964.grw (some_ne (by omega))).grown hS968.grw (some_ne (by omega)))
        refine ⟨.agg #[.int .i64 kk, .int .i64 k114, .int .i64 aa, .int .i64 k130, .int .i64 x959], resC rfl (resCell_mk (vs := [.int .i64 kk, .int .i64 k114, .int .i64 aa, .int .i64 k130, .int .i64 x959]) rt_76 e162 rfl (hS968.blk.rangeL 0 5 rfl)), ⟨kk, k114, aa, k130, x959⟩, (p1 + 1 + 1 + 1), rfl, ⟨⟨show (0 : Int) ≤ kk by omega, show kk ≤ (10 : Int) by omega⟩, ⟨show (1 : Int) ≤ k114 by omega, show k114 ≤ (ms.length : Int) by omega⟩, ⟨show (-1 : Int) ≤ aa by omega, show aa ≤ (4 : Int) by omega⟩, ⟨show (0 : Int) ≤ k130 by omega, show k130 ≤ (3 : Int) by omega⟩, show (-1 : Int) ≤ x959 by omega, show x959 ≤ (100 : Int) by omega⟩, by omega, by omega, k970, hb969⟩
       ·
        have h971 := of_decide_eq_false h942
        refine wpf_skip ?_
        refine blk_n ?_
        refine thn_n ?_
        refine wpf_seq_region ?_
        have k972 := (k207.grown hg879 (some_ne (by omega)))
        refine wpo_loadn (vs := [.int .i64 kk, .int .i64 k114, .int .i64 aa, .int .i64 k130, .int .i64 k137]) rt_76 e163 rfl (k972.rangeL 0 5 rfl) rfl ?_
        have k973 := (((k164.grown hg196 (some_ne (by omega))).grown0 hg204).grown hg879 (some_ne (by omega)))
        refine wpo_storen (vs := [.int .i64 kk, .int .i64 k114, .int .i64 aa, .int .i64 k130, .int .i64 k137]) (cs' := #[.int .i64 kk, .int .i64 k114, .int .i64 aa, .int .i64 k130, .int .i64 k137]) rt_76 e162 rfl rfl (by simp [Value.oneCell']) k973 (Nat.le_of_ble_eq_true rfl) rfl ?_
        intro w974 hS975
        have hb976 := low1 hb881 hS975.grw (by omega)
        refine wpo_nil ?_
        refine wpf_ret ?_
        have k977 := (kR878.grown hS975.grw (some_ne (by omega)))
        refine ⟨.agg #[.int .i64 kk, .int .i64 k114, .int .i64 aa, .int .i64 k130, .int .i64 k137], resC rfl (resCell_mk (vs := [.int .i64 kk, .int .i64 k114, .int .i64 aa, .int .i64 k130, .int .i64 k137]) rt_76 e162 rfl (hS975.blk.rangeL 0 5 rfl)), ⟨kk, k114, aa, k130, k137⟩, (p1 + 1 + 1), rfl, ⟨⟨show (0 : Int) ≤ kk by omega, show kk ≤ (10 : Int) by omega⟩, ⟨show (1 : Int) ≤ k114 by omega, show k114 ≤ (ms.length : Int) by omega⟩, ⟨show (-1 : Int) ≤ aa by omega, show aa ≤ (4 : Int) by omega⟩, ⟨show (0 : Int) ≤ k130 by omega, show k130 ≤ (3 : Int) by omega⟩, show (-1 : Int) ≤ k137 by omega, show k137 ≤ (100 : Int) by omega⟩, by omega, by omega, k977, hb976⟩
   ·
    iterate 9 refine wpo_pass rfl rfl rfl h206 rfl ?_
    refine wpo_pickf (v := .bool false) rfl h206 rfl rfl ?_
    refine wpo_nil ?_
    refine wpf_condf rfl rfl ?_
    refine wpf_exit ?_
    refine thn_e ?_
    refine thn_e ?_
    refine blk_e ?_
    refine thn_n ?_
    refine wpf_seq ?_
    refine wpf_seq_region ?_
    refine wpo_move (v := .pointer (some ⟨R, 0, none⟩)) e160 rfl ?_
    have k978 := (kR195.grown0 hg204)
    refine wpo_call (vs := [.pointer (some ⟨R, 0, none⟩), .int .i64 50]) gf_60 (args_cons rfl (args_cons rfl args_nil)) rfl (pick_c (p1 + 1) 50 (by omega) _ R bs _ _ _ k978 (by omega) (SlLt.low1 hs hb205 hlo) (by first | exact hb | exact fun b h => hb b (List.mem_of_mem_take h)) (by first | omega | (rw [List.length_take]; omega))) ?_
    rintro _ w984 ⟨k979, rfl, hk980, hk981, kR982, hg983⟩
    have hb985 := grown_trans hb205 hg983
    refine wpo_nil ?_
    refine wpf_block ?_
    refine wpf_seq_region ?_
    refine wpo_eql (q := decide (k979 = 0)) rfl rfl rfl rfl ?_
    refine wpo_assign (v := .bool (decide (k979 = 0))) rfl rfl ?_
    refine wpo_nil ?_
    refine wpf_cond rfl (fun h986 => ?_) (fun h986 => ?_)
    ·
     have h987 := of_decide_eq_true h986
     refine wpf_region ?_
     refine wpo_buildSlice (ps := [(0, .int .i64 0), (1, .int .i64 10)]) (e := 3) (cs := (([0, 10] : List Int).flatMap icell).toArray) (parts_cons rfl (parts_cons rfl parts_nil)) (fun _ => by kernel_rfl) rfl ?_
     intro B988 w989 hN990
     have hlB988 := hN_ge hN990 hb985
     have hhiB988 : hi ≤ B988 := Nat.le_trans (Nat.le_trans (Nat.le_trans (Nat.le_trans hhs hg196.size) hg204.size) hg983.size) (Nat.le_of_eq hN990.eq.symm)
     have k991 := (((k164.grown hg196 (some_ne (by omega))).grown0 hg204).grown hg983 (some_ne (by omega)))
     have lt_B101_B988 := hN_gtl hN990 (k991).lt
     have k992 := ((k201.grown0 hg204).grown hg983 (some_ne (by omega)))
     have lt_B144_B988 := hN_gtl hN990 (k992).lt
     have lt_R_B988 := hN_gtl hN990 (kR982).lt
     have hb993 := low0 hb985 hN990.grw
     refine wpo_move (v := .pointer (some ⟨R, 0, none⟩)) e160 rfl ?_
     have k994 := (kR982.grown0 hN990.grw)
     refine wpo_call (vs := [.pointer (some ⟨R, 0, none⟩), .int .i64 2]) gf_60 (args_cons rfl (args_cons rfl args_nil)) rfl (pick_c (p1 + 1 + 1) 2 (by omega) _ R bs _ _ _ k994 (by omega) (SlLt.low1 hs hb993 hlo) (by first | exact hb | exact fun b h => hb b (List.mem_of_mem_take h)) (by first | omega | (rw [List.length_take]; omega))) ?_
     rintro _ w1000 ⟨k995, rfl, hk996, hk997, kR998, hg999⟩
     have hb1001 := grown_trans hb993 hg999
     refine wpo_indexAddr (o' := (k995).toNat * 1) es_43 rfl rfl (by omega) (by omega) (by omega) rfl ?_
     have k1002 := (hN990.blk.grown hg999 (some_ne (by omega)))
     obtain ⟨x1003, hx1004⟩ := get_lt (l := ([0, 10] : List Int)) (i := (k995).toNat) (show (k995).toNat < 2 by omega)
     have hm1005 := List.mem_of_getElem? hx1004
     simp only [List.mem_cons, List.not_mem_nil, or_false] at hm1005
     refine wpo_load1 (v := .int .i64 x1003) ot_3 rfl ((rows_range wide_int k1002 hx1004) 0 _ rfl) rfl ?_
     refine wpo_fieldAddr (o' := 0) fo_76_0 e163 rfl rfl ?_
     have k1006 := ((k992.grown0 hN990.grw).grown hg999 (some_ne (by omega)))
     refine wpo_store1 (v := .int .i64 x1003) (cs' := #[.int .i64 x1003, .int .i64 k114, .int .i64 aa, .int .i64 k130, .int .i64 k137]) ot_3 rfl rfl rfl k1006 (Nat.le_of_ble_eq_true rfl) rfl ?_
     intro w1007 hS1008
     have hb1009 := low1 hb1001 hS1008.grw (by omega)
     refine wpo_nil ?_
     refine blk_n ?_
     refine thn_n ?_
     refine wpf_seq_region ?_
     refine wpo_loadn (vs := [.int .i64 x1003, .int .i64 k114, .int .i64 aa, .int .i64 k130, .int .i64 k137]) rt_76 e163 rfl (hS1008.blk.rangeL 0 5 rfl) rfl ?_
     have k1010 := (((k991.grown0 hN990.grw).grown hg999 (some_ne (by omega))).grown hS1008.grw (some_ne (by omega)))
     refine wpo_storen (vs := [.int .i64 x1003, .int .i64 k114, .int .i64 aa, .int .i64 k130, .int .i64 k137]) (cs' := #[.int .i64 x1003, .int .i64 k114, .int .i64 aa, .int .i64 k130, .int .i64 k137]) rt_76 e162 rfl rfl (by simp [Value.oneCell']) k1010 (Nat.le_of_ble_eq_true rfl) rfl ?_
     intro w1011 hS1012
     have hb1013 := low1 hb1009 hS1012.grw (by omega)
     refine wpo_nil ?_
     refine wpf_ret ?_
     have k1014 := ((kR998.grown hS1008.grw (some_ne (by omega))).grown hS1012.grw (some_ne (by omega)))
     refine ⟨.agg #[.int .i64 x1003, .int .i64 k114, .int .i64 aa, .int .i64 k130, .int .i64 k137], resC rfl (resCell_mk (vs := [.int .i64 x1003, .int .i64 k114, .int .i64 aa, .int .i64 k130, .int .i64 k137]) rt_76 e162 rfl (hS1012.blk.rangeL 0 5 rfl)), ⟨x1003, k114, aa, k130, k137⟩, (p1 + 1 + 1 + 1), rfl, ⟨⟨show (0 : Int) ≤ x1003 by omega, show x1003 ≤ (10 : Int) by omega⟩, ⟨show (1 : Int) ≤ k114 by omega, show k114 ≤ (ms.length : Int) by omega⟩, ⟨show (-1 : Int) ≤ aa by omega, show aa ≤ (4 : Int) by omega⟩, ⟨show (0 : Int) ≤ k130 by omega, show k130 ≤ (3 : Int) by omega⟩, show (-1 : Int) ≤ k137 by omega, show k137 ≤ (100 : Int) by omega⟩, by omega, by omega, k1014, hb1013⟩
    ·
     have h1015 := of_decide_eq_false h986
     refine wpf_seq_region ?_
     refine wpo_eql (q := decide (k979 = 1)) rfl rfl rfl rfl ?_
     refine wpo_assign (v := .bool (decide (k979 = 1))) rfl rfl ?_
     refine wpo_nil ?_
     refine wpf_cond rfl (fun h1016 => ?_) (fun h1016 => ?_)
     ·
      have h1017 := of_decide_eq_true h1016
      refine wpf_region ?_
      refine wpo_buildSlice (ps := [(0, .int .i64 (-1)), (1, .int .i64 4)]) (e := 3) (cs := (([(-1), 4] : List Int).flatMap icell).toArray) (parts_cons rfl (parts_cons rfl parts_nil)) (fun _ => by kernel_rfl) rfl ?_
      intro B1018 w1019 hN1020
      have hlB1018 := hN_ge hN1020 hb985
      have hhiB1018 : hi ≤ B1018 := Nat.le_trans (Nat.le_trans (Nat.le_trans (Nat.le_trans hhs hg196.size) hg204.size) hg983.size) (Nat.le_of_eq hN1020.eq.symm)
      have k1021 := (((k164.grown hg196 (some_ne (by omega))).grown0 hg204).grown hg983 (some_ne (by omega)))
      have lt_B101_B1018 := hN_gtl hN1020 (k1021).lt
      have k1022 := ((k201.grown0 hg204).grown hg983 (some_ne (by omega)))
      have lt_B144_B1018 := hN_gtl hN1020 (k1022).lt
      have lt_R_B1018 := hN_gtl hN1020 (kR982).lt
      have hb1023 := low0 hb985 hN1020.grw
      refine wpo_move (v := .pointer (some ⟨R, 0, none⟩)) e160 rfl ?_
      have k1024 := (kR982.grown0 hN1020.grw)
      refine wpo_call (vs := [.pointer (some ⟨R, 0, none⟩), .int .i64 2]) gf_60 (args_cons rfl (args_cons rfl args_nil)) rfl (pick_c (p1 + 1 + 1) 2 (by omega) _ R bs _ _ _ k1024 (by omega) (SlLt.low1 hs hb1023 hlo) (by first | exact hb | exact fun b h => hb b (List.mem_of_mem_take h)) (by first | omega | (rw [List.length_take]; omega))) ?_
      rintro _ w1030 ⟨k1025, rfl, hk1026, hk1027, kR1028, hg1029⟩
      have hb1031 := grown_trans hb1023 hg1029
      refine wpo_indexAddr (o' := (k1025).toNat * 1) es_43 rfl rfl (by omega) (by omega) (by omega) rfl ?_
      have k1032 := (hN1020.blk.grown hg1029 (some_ne (by omega)))
      obtain ⟨x1033, hx1034⟩ := get_lt (l := ([(-1), 4] : List Int)) (i := (k1025).toNat) (show (k1025).toNat < 2 by omega)
      have hm1035 := List.mem_of_getElem? hx1034
      simp only [List.mem_cons, List.not_mem_nil, or_false] at hm1035
      refine wpo_load1 (v := .int .i64 x1033) ot_3 rfl ((rows_range wide_int k1032 hx1034) 0 _ rfl) rfl ?_
      refine wpo_fieldAddr (o' := 2) fo_76_2 e163 rfl rfl ?_
      have k1036 := ((k1022.grown0 hN1020.grw).grown hg1029 (some_ne (by omega)))
      refine wpo_store1 (v := .int .i64 x1033) (cs' := #[.int .i64 kk, .int .i64 k114, .int .i64 x1033, .int .i64 k130, .int .i64 k137]) ot_3 rfl rfl rfl k1036 (Nat.le_of_ble_eq_true rfl) rfl ?_
      intro w1037 hS1038
      have hb1039 := low1 hb1031 hS1038.grw (by omega)
      refine wpo_nil ?_
      refine blk_n ?_
      refine thn_n ?_
      refine wpf_seq_region ?_
      refine wpo_loadn (vs := [.int .i64 kk, .int .i64 k114, .int .i64 x1033, .int .i64 k130, .int .i64 k137]) rt_76 e163 rfl (hS1038.blk.rangeL 0 5 rfl) rfl ?_
      have k1040 := (((k1021.grown0 hN1020.grw).grown hg1029 (some_ne (by omega))).grown hS1038.grw (some_ne (by omega)))
      refine wpo_storen (vs := [.int .i64 kk, .int .i64 k114, .int .i64 x1033, .int .i64 k130, .int .i64 k137]) (cs' := #[.int .i64 kk, .int .i64 k114, .int .i64 x1033, .int .i64 k130, .int .i64 k137]) rt_76 e162 rfl rfl (by simp [Value.oneCell']) k1040 (Nat.le_of_ble_eq_true rfl) rfl ?_
      intro w1041 hS1042
      have hb1043 := low1 hb1039 hS1042.grw (by omega)
      refine wpo_nil ?_
      refine wpf_ret ?_
      have k1044 := ((kR1028.grown hS1038.grw (some_ne (by omega))).grown hS1042.grw (some_ne (by omega)))
      refine ⟨.agg #[.int .i64 kk, .int .i64 k114, .int .i64 x1033, .int .i64 k130, .int .i64 k137], resC rfl (resCell_mk (vs := [.int .i64 kk, .int .i64 k114, .int .i64 x1033, .int .i64 k130, .int .i64 k137]) rt_76 e162 rfl (hS1042.blk.rangeL 0 5 rfl)), ⟨kk, k114, x1033, k130, k137⟩, (p1 + 1 + 1 + 1), rfl, ⟨⟨show (0 : Int) ≤ kk by omega, show kk ≤ (10 : Int) by omega⟩, ⟨show (1 : Int) ≤ k114 by omega, show k114 ≤ (ms.length : Int) by omega⟩, ⟨show (-1 : Int) ≤ x1033 by omega, show x1033 ≤ (4 : Int) by omega⟩, ⟨show (0 : Int) ≤ k130 by omega, show k130 ≤ (3 : Int) by omega⟩, show (-1 : Int) ≤ k137 by omega, show k137 ≤ (100 : Int) by omega⟩, by omega, by omega, k1044, hb1043⟩
     ·
      have h1045 := of_decide_eq_false h1016
      refine wpf_seq_region ?_
      refine wpo_eql (q := decide (k979 = 2)) rfl rfl rfl rfl ?_
      refine wpo_assign (v := .bool (decide (k979 = 2))) rfl rfl ?_
      refine wpo_nil ?_
      refine wpf_cond rfl (fun h1046 => ?_) (fun h1046 => ?_)
      ·
       have h1047 := of_decide_eq_true h1046
       refine wpf_region ?_
       refine wpo_buildSlice (ps := [(0, .int .i64 (-1)), (1, .int .i64 100)]) (e := 3) (cs := (([(-1), 100] : List Int).flatMap icell).toArray) (parts_cons rfl (parts_cons rfl parts_nil)) (fun _ => by kernel_rfl) rfl ?_
       intro B1048 w1049 hN1050
       have hlB1048 := hN_ge hN1050 hb985
       have hhiB1048 : hi ≤ B1048 := Nat.le_trans (Nat.le_trans (Nat.le_trans (Nat.le_trans hhs hg196.size) hg204.size) hg983.size) (Nat.le_of_eq hN1050.eq.symm)
       have k1051 := (((k164.grown hg196 (some_ne (by omega))).grown0 hg204).grown hg983 (some_ne (by omega)))
       have lt_B101_B1048 := hN_gtl hN1050 (k1051).lt
       have k1052 := ((k201.grown0 hg204).grown hg983 (some_ne (by omega)))
       have lt_B144_B1048 := hN_gtl hN1050 (k1052).lt
       have lt_R_B1048 := hN_gtl hN1050 (kR982).lt
       have hb1053 := low0 hb985 hN1050.grw
       refine wpo_move (v := .pointer (some ⟨R, 0, none⟩)) e160 rfl ?_
       have k1054 := (kR982.grown0 hN1050.grw)
       refine wpo_call (vs := [.pointer (some ⟨R, 0, none⟩), .int .i64 2]) gf_60 (args_cons rfl (args_cons rfl args_nil)) rfl (pick_c (p1 + 1 + 1) 2 (by omega) _ R bs _ _ _ k1054 (by omega) (SlLt.low1 hs hb1053 hlo) (by first | exact hb | exact fun b h => hb b (List.mem_of_mem_take h)) (by first | omega | (rw [List.length_take]; omega))) ?_
       rintro _ w1060 ⟨k1055, rfl, hk1056, hk1057, kR1058, hg1059⟩
       have hb1061 := grown_trans hb1053 hg1059
       refine wpo_indexAddr (o' := (k1055).toNat * 1) es_43 rfl rfl (by omega) (by omega) (by omega) rfl ?_
       have k1062 := (hN1050.blk.grown hg1059 (some_ne (by omega)))
       obtain ⟨x1063, hx1064⟩ := get_lt (l := ([(-1), 100] : List Int)) (i := (k1055).toNat) (show (k1055).toNat < 2 by omega)
       have hm1065 := List.mem_of_getElem? hx1064
       simp only [List.mem_cons, List.not_mem_nil, or_false] at hm1065
       refine wpo_load1 (v := .int .i64 x1063) ot_3 rfl ((rows_range wide_int k1062 hx1064) 0 _ rfl) rfl ?_
       refine wpo_fieldAddr (o' := 4) fo_76_4 e163 rfl rfl ?_
       have k1066 := ((k1052.grown0 hN1050.grw).grown hg1059 (some_ne (by omega)))
       refine wpo_store1 (v := .int .i64 x1063) (cs' := #[.int .i64 kk, .int .i64 k114, .int .i64 aa, .int .i64 k130, .int .i64 x1063]) ot_3 rfl rfl rfl k1066 (Nat.le_of_ble_eq_true rfl) rfl ?_
       intro w1067 hS1068
       have hb1069 := low1 hb1061 hS1068.grw (by omega)
       refine wpo_nil ?_
       refine blk_n ?_
       refine thn_n ?_
       refine wpf_seq_region ?_
       refine wpo_loadn (vs := [.int .i64 kk, .int .i64 k114, .int .i64 aa, .int .i64 k130, .int .i64 x1063]) rt_76 e163 rfl (hS1068.blk.rangeL 0 5 rfl) rfl ?_
       have k1070 := (((k1051.grown0 hN1050.grw).grown hg1059 (some_ne (by omega))).grown hS1068.grw (some_ne (by omega)))
       refine wpo_storen (vs := [.int .i64 kk, .int .i64 k114, .int .i64 aa, .int .i64 k130, .int .i64 x1063]) (cs' := #[.int .i64 kk, .int .i64 k114, .int .i64 aa, .int .i64 k130, .int .i64 x1063]) rt_76 e162 rfl rfl (by simp [Value.oneCell']) k1070 (Nat.le_of_ble_eq_true rfl) rfl ?_
       intro w1071 hS1072
       have hb1073 := low1 hb1069 hS1072.grw (by omega)
       refine wpo_nil ?_
       refine wpf_ret ?_
       have k1074 := ((kR1058.grown hS1068.grw (some_ne (by omega))).grown hS1072.grw (some_ne (by omega)))
       refine ⟨.agg #[.int .i64 kk, .int .i64 k114, .int .i64 aa, .int .i64 k130, .int .i64 x1063], resC rfl (resCell_mk (vs := [.int .i64 kk, .int .i64 k114, .int .i64 aa, .int .i64 k130, .int .i64 x1063]) rt_76 e162 rfl (hS1072.blk.rangeL 0 5 rfl)), ⟨kk, k114, aa, k130, x1063⟩, (p1 + 1 + 1 + 1), rfl, ⟨⟨show (0 : Int) ≤ kk by omega, show kk ≤ (10 : Int) by omega⟩, ⟨show (1 : Int) ≤ k114 by omega, show k114 ≤ (ms.length : Int) by omega⟩, ⟨show (-1 : Int) ≤ aa by omega, show aa ≤ (4 : Int) by omega⟩, ⟨show (0 : Int) ≤ k130 by omega, show k130 ≤ (3 : Int) by omega⟩, show (-1 : Int) ≤ x1063 by omega, show x1063 ≤ (100 : Int) by omega⟩, by omega, by omega, k1074, hb1073⟩
      ·
       have h1075 := of_decide_eq_false h1046
       refine wpf_skip ?_
       refine blk_n ?_
       refine thn_n ?_
       refine wpf_seq_region ?_
       have k1076 := ((k201.grown0 hg204).grown hg983 (some_ne (by omega)))
       refine wpo_loadn (vs := [.int .i64 kk, .int .i64 k114, .int .i64 aa, .int .i64 k130, .int .i64 k137]) rt_76 e163 rfl (k1076.rangeL 0 5 rfl) rfl ?_
       have k1077 := (((k164.grown hg196 (some_ne (by omega))).grown0 hg204).grown hg983 (some_ne (by omega)))
       refine wpo_storen (vs := [.int .i64 kk, .int .i64 k114, .int .i64 aa, .int .i64 k130, .int .i64 k137]) (cs' := #[.int .i64 kk, .int .i64 k114, .int .i64 aa, .int .i64 k130, .int .i64 k137]) rt_76 e162 rfl rfl (by simp [Value.oneCell']) k1077 (Nat.le_of_ble_eq_true rfl) rfl ?_
       intro w1078 hS1079
       have hb1080 := low1 hb985 hS1079.grw (by omega)
       refine wpo_nil ?_
       refine wpf_ret ?_
       have k1081 := (kR982.grown hS1079.grw (some_ne (by omega)))
       refine ⟨.agg #[.int .i64 kk, .int .i64 k114, .int .i64 aa, .int .i64 k130, .int .i64 k137], resC rfl (resCell_mk (vs := [.int .i64 kk, .int .i64 k114, .int .i64 aa, .int .i64 k130, .int .i64 k137]) rt_76 e162 rfl (hS1079.blk.rangeL 0 5 rfl)), ⟨kk, k114, aa, k130, k137⟩, (p1 + 1 + 1), rfl, ⟨⟨show (0 : Int) ≤ kk by omega, show kk ≤ (10 : Int) by omega⟩, ⟨show (1 : Int) ≤ k114 by omega, show k114 ≤ (ms.length : Int) by omega⟩, ⟨show (-1 : Int) ≤ aa by omega, show aa ≤ (4 : Int) by omega⟩, ⟨show (0 : Int) ≤ k130 by omega, show k130 ≤ (3 : Int) by omega⟩, show (-1 : Int) ≤ k137 by omega, show k137 ≤ (100 : Int) by omega⟩, by omega, by omega, k1081, hb1080⟩
  ·
   have h1082 := of_decide_eq_false h199
   iterate 4 refine wpo_pass rfl rfl rfl h199 rfl ?_
   refine wpo_pickf (v := .bool false) rfl h199 rfl rfl ?_
   refine wpo_move (v := .bool false) rfl rfl ?_
   iterate 9 refine wpo_pass rfl rfl rfl rfl rfl ?_
   refine wpo_pickf (v := .bool false) rfl rfl rfl rfl ?_
   refine wpo_nil ?_
   refine wpf_condf rfl rfl ?_
   refine wpf_exit ?_
   refine thn_e ?_
   refine thn_e ?_
   refine blk_e ?_
   refine thn_n ?_
   refine wpf_seq ?_
   refine wpf_seq_region ?_
   refine wpo_move (v := .pointer (some ⟨R, 0, none⟩)) e160 rfl ?_
   refine wpo_call (vs := [.pointer (some ⟨R, 0, none⟩), .int .i64 50]) gf_60 (args_cons rfl (args_cons rfl args_nil)) rfl (pick_c (p1 + 1) 50 (by omega) _ R bs _ _ _ kR195 (by omega) (SlLt.low1 hs hb198 hlo) (by first | exact hb | exact fun b h => hb b (List.mem_of_mem_take h)) (by first | omega | (rw [List.length_take]; omega))) ?_
   rintro _ w1088 ⟨k1083, rfl, hk1084, hk1085, kR1086, hg1087⟩
   have hb1089 := grown_trans hb198 hg1087
   refine wpo_nil ?_
   refine wpf_block ?_
   refine wpf_seq_region ?_
   refine wpo_eql (q := decide (k1083 = 0)) rfl rfl rfl rfl ?_
   refine wpo_assign (v := .bool (decide (k1083 = 0))) rfl rfl ?_
   refine wpo_nil ?_
   refine wpf_cond rfl (fun h1090 => ?_) (fun h1090 => ?_)
   ·
    have h1091 := of_decide_eq_true h1090
    refine wpf_region ?_
    refine wpo_buildSlice (ps := [(0, .int .i64 0), (1, .int .i64 10)]) (e := 3) (cs := (([0, 10] : List Int).flatMap icell).toArray) (parts_cons rfl (parts_cons rfl parts_nil)) (fun _ => by kernel_rfl) rfl ?_
    intro B1092 w1093 hN1094
    have hlB1092 := hN_ge hN1094 hb1089
    have hhiB1092 : hi ≤ B1092 := Nat.le_trans (Nat.le_trans (Nat.le_trans hhs hg196.size) hg1087.size) (Nat.le_of_eq hN1094.eq.symm)
    have k1095 := ((k164.grown hg196 (some_ne (by omega))).grown hg1087 (some_ne (by omega)))
    have lt_B101_B1092 := hN_gtl hN1094 (k1095).lt
    have k1096 := ((k165.grown hg196 (some_ne (by omega))).grown hg1087 (some_ne (by omega)))
    have lt_B144_B1092 := hN_gtl hN1094 (k1096).lt
    have lt_R_B1092 := hN_gtl hN1094 (kR1086).lt
    have hb1097 := low0 hb1089 hN1094.grw
    refine wpo_move (v := .pointer (some ⟨R, 0, none⟩)) e160 rfl ?_
    have k1098 := (kR1086.grown0 hN1094.grw)
    refine wpo_call (vs := [.pointer (some ⟨R, 0, none⟩), .int .i64 2]) gf_60 (args_cons rfl (args_cons rfl args_nil)) rfl (pick_c (p1 + 1 + 1) 2 (by omega) _ R bs _ _ _ k1098 (by omega) (SlLt.low1 hs hb1097 hlo) (by first | exact hb | exact fun b h => hb b (List.mem_of_mem_take h)) (by first | omega | (rw [List.length_take]; omega))) ?_
    rintro _ w1104 ⟨k1099, rfl, hk1100, hk1101, kR1102, hg1103⟩
    have hb1105 := grown_trans hb1097 hg1103
    refine wpo_indexAddr (o' := (k1099).toNat * 1) es_43 rfl rfl (by omega) (by omega) (by omega) rfl ?_
    have k1106 := (hN1094.blk.grown hg1103 (some_ne (by omega)))
    obtain ⟨x1107, hx1108⟩ := get_lt (l := ([0, 10] : List Int)) (i := (k1099).toNat) (show (k1099).toNat < 2 by omega)
    have hm1109 := List.mem_of_getElem? hx1108
    simp only [List.mem_cons, List.not_mem_nil, or_false] at hm1109
    refine wpo_load1 (v := .int .i64 x1107) ot_3 rfl ((rows_range wide_int k1106 hx1108) 0 _ rfl) rfl ?_
    refine wpo_fieldAddr (o' := 0) fo_76_0 e163 rfl rfl ?_
    have k1110 := ((k1096.grown0 hN1094.grw).grown hg1103 (some_ne (by omega)))
    refine wpo_store1 (v := .int .i64 x1107) (cs' := #[.int .i64 x1107, .int .i64 k114, .int .i64 aa, .int .i64 k130, .int .i64 k137]) ot_3 rfl rfl rfl k1110 (Nat.le_of_ble_eq_true rfl) rfl ?_
    intro w1111 hS1112
    have hb1113 := low1 hb1105 hS1112.grw (by omega)
    refine wpo_nil ?_
    refine blk_n ?_
    refine thn_n ?_
    refine wpf_seq_region ?_
    refine wpo_loadn (vs := [.int .i64 x1107, .int .i64 k114, .int .i64 aa, .int .i64 k130, .int .i64 k137]) rt_76 e163 rfl (hS1112.blk.rangeL 0 5 rfl) rfl ?_
    have k1114 := (((k1095.grown0 hN1094.grw).grown hg1103 (some_ne (by omega))).grown hS1112.grw (some_ne (by omega)))
    refine wpo_storen (vs := [.int .i64 x1107, .int .i64 k114, .int .i64 aa, .int .i64 k130, .int .i64 k137]) (cs' := #[.int .i64 x1107, .int .i64 k114, .int .i64 aa, .int .i64 k130, .int .i64 k137]) rt_76 e162 rfl rfl (by simp [Value.oneCell']) k1114 (Nat.le_of_ble_eq_true rfl) rfl ?_
    intro w1115 hS1116
    have hb1117 := low1 hb1113 hS1116.grw (by omega)
    refine wpo_nil ?_
    refine wpf_ret ?_
    have k1118 := ((kR1102.grown hS1112.grw (some_ne (by omega))).grown hS1116.grw (some_ne (by omega)))
    refine ⟨.agg #[.int .i64 x1107, .int .i64 k114, .int .i64 aa, .int .i64 k130, .int .i64 k137], resC rfl (resCell_mk (vs := [.int .i64 x1107, .int .i64 k114, .int .i64 aa, .int .i64 k130, .int .i64 k137]) rt_76 e162 rfl (hS1116.blk.rangeL 0 5 rfl)), ⟨x1107, k114, aa, k130, k137⟩, (p1 + 1 + 1 + 1), rfl, ⟨⟨show (0 : Int) ≤ x1107 by omega, show x1107 ≤ (10 : Int) by omega⟩, ⟨show (1 : Int) ≤ k114 by omega, show k114 ≤ (ms.length : Int) by omega⟩, ⟨show (-1 : Int) ≤ aa by omega, show aa ≤ (4 : Int) by omega⟩, ⟨show (0 : Int) ≤ k130 by omega, show k130 ≤ (3 : Int) by omega⟩, show (-1 : Int) ≤ k137 by omega, show k137 ≤ (100 : Int) by omega⟩, by omega, by omega, k1118, hb1117⟩
   ·
    have h1119 := of_decide_eq_false h1090
    refine wpf_seq_region ?_
    refine wpo_eql (q := decide (k1083 = 1)) rfl rfl rfl rfl ?_
    refine wpo_assign (v := .bool (decide (k1083 = 1))) rfl rfl ?_
    refine wpo_nil ?_
    refine wpf_cond rfl (fun h1120 => ?_) (fun h1120 => ?_)
    ·
     have h1121 := of_decide_eq_true h1120
     refine wpf_region ?_
     refine wpo_buildSlice (ps := [(0, .int .i64 (-1)), (1, .int .i64 4)]) (e := 3) (cs := (([(-1), 4] : List Int).flatMap icell).toArray) (parts_cons rfl (parts_cons rfl parts_nil)) (fun _ => by kernel_rfl) rfl ?_
     intro B1122 w1123 hN1124
     have hlB1122 := hN_ge hN1124 hb1089
     have hhiB1122 : hi ≤ B1122 := Nat.le_trans (Nat.le_trans (Nat.le_trans hhs hg196.size) hg1087.size) (Nat.le_of_eq hN1124.eq.symm)
     have k1125 := ((k164.grown hg196 (some_ne (by omega))).grown hg1087 (some_ne (by omega)))
     have lt_B101_B1122 := hN_gtl hN1124 (k1125).lt
     have k1126 := ((k165.grown hg196 (some_ne (by omega))).grown hg1087 (some_ne (by omega)))
     have lt_B144_B1122 := hN_gtl hN1124 (k1126).lt
     have lt_R_B1122 := hN_gtl hN1124 (kR1086).lt
     have hb1127 := low0 hb1089 hN1124.grw
     refine wpo_move (v := .pointer (some ⟨R, 0, none⟩)) e160 rfl ?_
     have k1128 := (kR1086.grown0 hN1124.grw)
     refine wpo_call (vs := [.pointer (some ⟨R, 0, none⟩), .int .i64 2]) gf_60 (args_cons rfl (args_cons rfl args_nil)) rfl (pick_c (p1 + 1 + 1) 2 (by omega) _ R bs _ _ _ k1128 (by omega) (SlLt.low1 hs hb1127 hlo) (by first | exact hb | exact fun b h => hb b (List.mem_of_mem_take h)) (by first | omega | (rw [List.length_take]; omega))) ?_
     rintro _ w1134 ⟨k1129, rfl, hk1130, hk1131, kR1132, hg1133⟩
     have hb1135 := grown_trans hb1127 hg1133
     refine wpo_indexAddr (o' := (k1129).toNat * 1) es_43 rfl rfl (by omega) (by omega) (by omega) rfl ?_
     have k1136 := (hN1124.blk.grown hg1133 (some_ne (by omega)))
     obtain ⟨x1137, hx1138⟩ := get_lt (l := ([(-1), 4] : List Int)) (i := (k1129).toNat) (show (k1129).toNat < 2 by omega)
     have hm1139 := List.mem_of_getElem? hx1138
     simp only [List.mem_cons, List.not_mem_nil, or_false] at hm1139
     refine wpo_load1 (v := .int .i64 x1137) ot_3 rfl ((rows_range wide_int k1136 hx1138) 0 _ rfl) rfl ?_
     refine wpo_fieldAddr (o' := 2) fo_76_2 e163 rfl rfl ?_
     have k1140 := ((k1126.grown0 hN1124.grw).grown hg1133 (some_ne (by omega)))
     refine wpo_store1 (v := .int .i64 x1137) (cs' := #[.int .i64 kk, .int .i64 k114, .int .i64 x1137, .int .i64 k130, .int .i64 k137]) ot_3 rfl rfl rfl k1140 (Nat.le_of_ble_eq_true rfl) rfl ?_
     intro w1141 hS1142
     have hb1143 := low1 hb1135 hS1142.grw (by omega)
     refine wpo_nil ?_
     refine blk_n ?_
     refine thn_n ?_
     refine wpf_seq_region ?_
     refine wpo_loadn (vs := [.int .i64 kk, .int .i64 k114, .int .i64 x1137, .int .i64 k130, .int .i64 k137]) rt_76 e163 rfl (hS1142.blk.rangeL 0 5 rfl) rfl ?_
     have k1144 := (((k1125.grown0 hN1124.grw).grown hg1133 (some_ne (by omega))).grown hS1142.grw (some_ne (by omega)))
     refine wpo_storen (vs := [.int .i64 kk, .int .i64 k114, .int .i64 x1137, .int .i64 k130, .int .i64 k137]) (cs' := #[.int .i64 kk, .int .i64 k114, .int .i64 x1137, .int .i64 k130, .int .i64 k137]) rt_76 e162 rfl rfl (by simp [Value.oneCell']) k1144 (Nat.le_of_ble_eq_true rfl) rfl ?_
     intro w1145 hS1146
     have hb1147 := low1 hb1143 hS1146.grw (by omega)
     refine wpo_nil ?_
     refine wpf_ret ?_
     have k1148 := ((kR1132.grown hS1142.grw (some_ne (by omega))).grown hS1146.grw (some_ne (by omega)))
     refine ⟨.agg #[.int .i64 kk, .int .i64 k114, .int .i64 x1137, .int .i64 k130, .int .i64 k137], resC rfl (resCell_mk (vs := [.int .i64 kk, .int .i64 k114, .int .i64 x1137, .int .i64 k130, .int .i64 k137]) rt_76 e162 rfl (hS1146.blk.rangeL 0 5 rfl)), ⟨kk, k114, x1137, k130, k137⟩, (p1 + 1 + 1 + 1), rfl, ⟨⟨show (0 : Int) ≤ kk by omega, show kk ≤ (10 : Int) by omega⟩, ⟨show (1 : Int) ≤ k114 by omega, show k114 ≤ (ms.length : Int) by omega⟩, ⟨show (-1 : Int) ≤ x1137 by omega, show x1137 ≤ (4 : Int) by omega⟩, ⟨show (0 : Int) ≤ k130 by omega, show k130 ≤ (3 : Int) by omega⟩, show (-1 : Int) ≤ k137 by omega, show k137 ≤ (100 : Int) by omega⟩, by omega, by omega, k1148, hb1147⟩
    ·
     have h1149 := of_decide_eq_false h1120
     refine wpf_seq_region ?_
     refine wpo_eql (q := decide (k1083 = 2)) rfl rfl rfl rfl ?_
     refine wpo_assign (v := .bool (decide (k1083 = 2))) rfl rfl ?_
     refine wpo_nil ?_
     refine wpf_cond rfl (fun h1150 => ?_) (fun h1150 => ?_)
     ·
      have h1151 := of_decide_eq_true h1150
      refine wpf_region ?_
      refine wpo_buildSlice (ps := [(0, .int .i64 (-1)), (1, .int .i64 100)]) (e := 3) (cs := (([(-1), 100] : List Int).flatMap icell).toArray) (parts_cons rfl (parts_cons rfl parts_nil)) (fun _ => by kernel_rfl) rfl ?_
      intro B1152 w1153 hN1154
      have hlB1152 := hN_ge hN1154 hb1089
      have hhiB1152 : hi ≤ B1152 := Nat.le_trans (Nat.le_trans (Nat.le_trans hhs hg196.size) hg1087.size) (Nat.le_of_eq hN1154.eq.symm)
      have k1155 := ((k164.grown hg196 (some_ne (by omega))).grown hg1087 (some_ne (by omega)))
      have lt_B101_B1152 := hN_gtl hN1154 (k1155).lt
      have k1156 := ((k165.grown hg196 (some_ne (by omega))).grown hg1087 (some_ne (by omega)))
      have lt_B144_B1152 := hN_gtl hN1154 (k1156).lt
      have lt_R_B1152 := hN_gtl hN1154 (kR1086).lt
      have hb1157 := low0 hb1089 hN1154.grw
      refine wpo_move (v := .pointer (some ⟨R, 0, none⟩)) e160 rfl ?_
      have k1158 := (kR1086.grown0 hN1154.grw)
      refine wpo_call (vs := [.pointer (some ⟨R, 0, none⟩), .int .i64 2]) gf_60 (args_cons rfl (args_cons rfl args_nil)) rfl (pick_c (p1 + 1 + 1) 2 (by omega) _ R bs _ _ _ k1158 (by omega) (SlLt.low1 hs hb1157 hlo) (by first | exact hb | exact fun b h => hb b (List.mem_of_mem_take h)) (by first | omega | (rw [List.length_take]; omega))) ?_
      rintro _ w1164 ⟨k1159, rfl, hk1160, hk1161, kR1162, hg1163⟩
      have hb1165 := grown_trans hb1157 hg1163
      refine wpo_indexAddr (o' := (k1159).toNat * 1) es_43 rfl rfl (by omega) (by omega) (by omega) rfl ?_
      have k1166 := (hN1154.blk.grown hg1163 (some_ne (by omega)))
      obtain ⟨x1167, hx1168⟩ := get_lt (l := ([(-1), 100] : List Int)) (i := (k1159).toNat) (show (k1159).toNat < 2 by omega)
      have hm1169 := List.mem_of_getElem? hx1168
      simp only [List.mem_cons, List.not_mem_nil, or_false] at hm1169
      refine wpo_load1 (v := .int .i64 x1167) ot_3 rfl ((rows_range wide_int k1166 hx1168) 0 _ rfl) rfl ?_
      refine wpo_fieldAddr (o' := 4) fo_76_4 e163 rfl rfl ?_
      have k1170 := ((k1156.grown0 hN1154.grw).grown hg1163 (some_ne (by omega)))
      refine wpo_store1 (v := .int .i64 x1167) (cs' := #[.int .i64 kk, .int .i64 k114, .int .i64 aa, .int .i64 k130, .int .i64 x1167]) ot_3 rfl rfl rfl k1170 (Nat.le_of_ble_eq_true rfl) rfl ?_
      intro w1171 hS1172
      have hb1173 := low1 hb1165 hS1172.grw (by omega)
      refine wpo_nil ?_
      refine blk_n ?_
      refine thn_n ?_
      refine wpf_seq_region ?_
      refine wpo_loadn (vs := [.int .i64 kk, .int .i64 k114, .int .i64 aa, .int .i64 k130, .int .i64 x1167]) rt_76 e163 rfl (hS1172.blk.rangeL 0 5 rfl) rfl ?_
      have k1174 := (((k1155.grown0 hN1154.grw).grown hg1163 (some_ne (by omega))).grown hS1172.grw (some_ne (by omega)))
      refine wpo_storen (vs := [.int .i64 kk, .int .i64 k114, .int .i64 aa, .int .i64 k130, .int .i64 x1167]) (cs' := #[.int .i64 kk, .int .i64 k114, .int .i64 aa, .int .i64 k130, .int .i64 x1167]) rt_76 e162 rfl rfl (by simp [Value.oneCell']) k1174 (Nat.le_of_ble_eq_true rfl) rfl ?_
      intro w1175 hS1176
      have hb1177 := low1 hb1173 hS1176.grw (by omega)
      refine wpo_nil ?_
      refine wpf_ret ?_
      have k1178 := ((kR1162.grown hS1172.grw (some_ne (by omega))).grown hS1176.grw (some_ne (by omega)))
      refine ⟨.agg #[.int .i64 kk, .int .i64 k114, .int .i64 aa, .int .i64 k130, .int .i64 x1167], resC rfl (resCell_mk (vs := [.int .i64 kk, .int .i64 k114, .int .i64 aa, .int .i64 k130, .int .i64 x1167]) rt_76 e162 rfl (hS1176.blk.rangeL 0 5 rfl)), ⟨kk, k114, aa, k130, x1167⟩, (p1 + 1 + 1 + 1), rfl, ⟨⟨show (0 : Int) ≤ kk by omega, show kk ≤ (10 : Int) by omega⟩, ⟨show (1 : Int) ≤ k114 by omega, show k114 ≤ (ms.length : Int) by omega⟩, ⟨show (-1 : Int) ≤ aa by omega, show aa ≤ (4 : Int) by omega⟩, ⟨show (0 : Int) ≤ k130 by omega, show k130 ≤ (3 : Int) by omega⟩, show (-1 : Int) ≤ x1167 by omega, show x1167 ≤ (100 : Int) by omega⟩, by omega, by omega, k1178, hb1177⟩
     ·
      have h1179 := of_decide_eq_false h1150
      refine wpf_skip ?_
      refine blk_n ?_
      refine thn_n ?_
      refine wpf_seq_region ?_
      have k1180 := ((k165.grown hg196 (some_ne (by omega))).grown hg1087 (some_ne (by omega)))
      refine wpo_loadn (vs := [.int .i64 kk, .int .i64 k114, .int .i64 aa, .int .i64 k130, .int .i64 k137]) rt_76 e163 rfl (k1180.rangeL 0 5 rfl) rfl ?_
      have k1181 := ((k164.grown hg196 (some_ne (by omega))).grown hg1087 (some_ne (by omega)))
      refine wpo_storen (vs := [.int .i64 kk, .int .i64 k114, .int .i64 aa, .int .i64 k130, .int .i64 k137]) (cs' := #[.int .i64 kk, .int .i64 k114, .int .i64 aa, .int .i64 k130, .int .i64 k137]) rt_76 e162 rfl rfl (by simp [Value.oneCell']) k1181 (Nat.le_of_ble_eq_true rfl) rfl ?_
      intro w1182 hS1183
      have hb1184 := low1 hb1089 hS1183.grw (by omega)
      refine wpo_nil ?_
      refine wpf_ret ?_
      have k1185 := (kR1086.grown hS1183.grw (some_ne (by omega)))
      refine ⟨.agg #[.int .i64 kk, .int .i64 k114, .int .i64 aa, .int .i64 k130, .int .i64 k137], resC rfl (resCell_mk (vs := [.int .i64 kk, .int .i64 k114, .int .i64 aa, .int .i64 k130, .int .i64 k137]) rt_76 e162 rfl (hS1183.blk.rangeL 0 5 rfl)), ⟨kk, k114, aa, k130, k137⟩, (p1 + 1 + 1), rfl, ⟨⟨show (0 : Int) ≤ kk by omega, show kk ≤ (10 : Int) by omega⟩, ⟨show (1 : Int) ≤ k114 by omega, show k114 ≤ (ms.length : Int) by omega⟩, ⟨show (-1 : Int) ≤ aa by omega, show aa ≤ (4 : Int) by omega⟩, ⟨show (0 : Int) ≤ k130 by omega, show k130 ≤ (3 : Int) by omega⟩, show (-1 : Int) ≤ k137 by omega, show k137 ≤ (100 : Int) by omega⟩, by omega, by omega, k1185, hb1184⟩
 ·
  have h1186 := of_decide_eq_false h190
  iterate 3 refine wpo_pass rfl rfl rfl h190 rfl ?_
  refine wpo_pickf (v := .bool false) rfl h190 rfl rfl ?_
  refine wpo_move (v := .bool false) rfl rfl ?_
  iterate 4 refine wpo_pass rfl rfl rfl rfl rfl ?_
  refine wpo_pickf (v := .bool false) rfl rfl rfl rfl ?_
  refine wpo_move (v := .bool false) rfl rfl ?_
  iterate 9 refine wpo_pass rfl rfl rfl rfl rfl ?_
  refine wpo_pickf (v := .bool false) rfl rfl rfl rfl ?_
  refine wpo_nil ?_
  refine wpf_condf rfl rfl ?_
  refine wpf_exit ?_
  refine thn_e ?_
  refine thn_e ?_
  refine blk_e ?_
  refine thn_n ?_
  refine wpf_seq ?_
  refine wpf_seq_region ?_
  refine wpo_move (v := .pointer (some ⟨R, 0, none⟩)) e160 rfl ?_
  refine wpo_call (vs := [.pointer (some ⟨R, 0, none⟩), .int .i64 50]) gf_60 (args_cons rfl (args_cons rfl args_nil)) rfl (pick_c p1 50 (by omega) _ R bs _ _ _ k166 (by omega) (SlLt.low1 hs hb157 hlo) (by first | exact hb | exact fun b h => hb b (List.mem_of_mem_take h)) (by first | omega | (rw [List.length_take]; omega))) ?_
  rintro _ w1192 ⟨k1187, rfl, hk1188, hk1189, kR1190, hg1191⟩
  have hb1193 := grown_trans hb157 hg1191
  refine wpo_nil ?_
  refine wpf_block ?_
  refine wpf_seq_region ?_
  refine wpo_eql (q := decide (k1187 = 0)) rfl rfl rfl rfl ?_
  refine wpo_assign (v := .bool (decide (k1187 = 0))) rfl rfl ?_
  refine wpo_nil ?_
  refine wpf_cond rfl (fun h1194 => ?_) (fun h1194 => ?_)
  ·
   have h1195 := of_decide_eq_true h1194
   refine wpf_region ?_
   refine wpo_buildSlice (ps := [(0, .int .i64 0), (1, .int .i64 10)]) (e := 3) (cs := (([0, 10] : List Int).flatMap icell).toArray) (parts_cons rfl (parts_cons rfl parts_nil)) (fun _ => by kernel_rfl) rfl ?_
   intro B1196 w1197 hN1198
   have hlB1196 := hN_ge hN1198 hb1193
   have hhiB1196 : hi ≤ B1196 := Nat.le_trans (Nat.le_trans hhs hg1191.size) (Nat.le_of_eq hN1198.eq.symm)
   have k1199 := (k164.grown hg1191 (some_ne (by omega)))
   have lt_B101_B1196 := hN_gtl hN1198 (k1199).lt
   have k1200 := (k165.grown hg1191 (some_ne (by omega)))
   have lt_B144_B1196 := hN_gtl hN1198 (k1200).lt
   have lt_R_B1196 := hN_gtl hN1198 (kR1190).lt
   have hb1201 := low0 hb1193 hN1198.grw
   refine wpo_move (v := .pointer (some ⟨R, 0, none⟩)) e160 rfl ?_
   have k1202 := (kR1190.grown0 hN1198.grw)
   refine wpo_call (vs := [.pointer (some ⟨R, 0, none⟩), .int .i64 2]) gf_60 (args_cons rfl (args_cons rfl args_nil)) rfl (pick_c (p1 + 1) 2 (by omega) _ R bs _ _ _ k1202 (by omega) (SlLt.low1 hs hb1201 hlo) (by first | exact hb | exact fun b h => hb b (List.mem_of_mem_take h)) (by first | omega | (rw [List.length_take]; omega))) ?_
   rintro _ w1208 ⟨k1203, rfl, hk1204, hk1205, kR1206, hg1207⟩
   have hb1209 := grown_trans hb1201 hg1207
   refine wpo_indexAddr (o' := (k1203).toNat * 1) es_43 rfl rfl (by omega) (by omega) (by omega) rfl ?_
   have k1210 := (hN1198.blk.grown hg1207 (some_ne (by omega)))
   obtain ⟨x1211, hx1212⟩ := get_lt (l := ([0, 10] : List Int)) (i := (k1203).toNat) (show (k1203).toNat < 2 by omega)
   have hm1213 := List.mem_of_getElem? hx1212
   simp only [List.mem_cons, List.not_mem_nil, or_false] at hm1213
   refine wpo_load1 (v := .int .i64 x1211) ot_3 rfl ((rows_range wide_int k1210 hx1212) 0 _ rfl) rfl ?_
   refine wpo_fieldAddr (o' := 0) fo_76_0 e163 rfl rfl ?_
   have k1214 := ((k1200.grown0 hN1198.grw).grown hg1207 (some_ne (by omega)))
   refine wpo_store1 (v := .int .i64 x1211) (cs' := #[.int .i64 x1211, .int .i64 k114, .int .i64 aa, .int .i64 k130, .int .i64 k137]) ot_3 rfl rfl rfl k1214 (Nat.le_of_ble_eq_true rfl) rfl ?_
   intro w1215 hS1216
   have hb1217 := low1 hb1209 hS1216.grw (by omega)
   refine wpo_nil ?_
   refine blk_n ?_
   refine thn_n ?_
   refine wpf_seq_region ?_
   refine wpo_loadn (vs := [.int .i64 x1211, .int .i64 k114, .int .i64 aa, .int .i64 k130, .int .i64 k137]) rt_76 e163 rfl (hS1216.blk.rangeL 0 5 rfl) rfl ?_
   have k1218 := (((k1199.grown0 hN1198.grw).grown hg1207 (some_ne (by omega))).grown hS1216.grw (some_ne (by omega)))
   refine wpo_storen (vs := [.int .i64 x1211, .int .i64 k114, .int .i64 aa, .int .i64 k130, .int .i64 k137]) (cs' := #[.int .i64 x1211, .int .i64 k114, .int .i64 aa, .int .i64 k130, .int .i64 k137]) rt_76 e162 rfl rfl (by simp [Value.oneCell']) k1218 (Nat.le_of_ble_eq_true rfl) rfl ?_
   intro w1219 hS1220
   have hb1221 := low1 hb1217 hS1220.grw (by omega)
   refine wpo_nil ?_
   refine wpf_ret ?_
   have k1222 := ((kR1206.grown hS1216.grw (some_ne (by omega))).grown hS1220.grw (some_ne (by omega)))
   refine ⟨.agg #[.int .i64 x1211, .int .i64 k114, .int .i64 aa, .int .i64 k130, .int .i64 k137], resC rfl (resCell_mk (vs := [.int .i64 x1211, .int .i64 k114, .int .i64 aa, .int .i64 k130, .int .i64 k137]) rt_76 e162 rfl (hS1220.blk.rangeL 0 5 rfl)), ⟨x1211, k114, aa, k130, k137⟩, (p1 + 1 + 1), rfl, ⟨⟨show (0 : Int) ≤ x1211 by omega, show x1211 ≤ (10 : Int) by omega⟩, ⟨show (1 : Int) ≤ k114 by omega, show k114 ≤ (ms.length : Int) by omega⟩, ⟨show (-1 : Int) ≤ aa by omega, show aa ≤ (4 : Int) by omega⟩, ⟨show (0 : Int) ≤ k130 by omega, show k130 ≤ (3 : Int) by omega⟩, show (-1 : Int) ≤ k137 by omega, show k137 ≤ (100 : Int) by omega⟩, by omega, by omega, k1222, hb1221⟩
  ·
   have h1223 := of_decide_eq_false h1194
   refine wpf_seq_region ?_
   refine wpo_eql (q := decide (k1187 = 1)) rfl rfl rfl rfl ?_
   refine wpo_assign (v := .bool (decide (k1187 = 1))) rfl rfl ?_
   refine wpo_nil ?_
   refine wpf_cond rfl (fun h1224 => ?_) (fun h1224 => ?_)
   ·
    have h1225 := of_decide_eq_true h1224
    refine wpf_region ?_
    refine wpo_buildSlice (ps := [(0, .int .i64 (-1)), (1, .int .i64 4)]) (e := 3) (cs := (([(-1), 4] : List Int).flatMap icell).toArray) (parts_cons rfl (parts_cons rfl parts_nil)) (fun _ => by kernel_rfl) rfl ?_
    intro B1226 w1227 hN1228
    have hlB1226 := hN_ge hN1228 hb1193
    have hhiB1226 : hi ≤ B1226 := Nat.le_trans (Nat.le_trans hhs hg1191.size) (Nat.le_of_eq hN1228.eq.symm)
    have k1229 := (k164.grown hg1191 (some_ne (by omega)))
    have lt_B101_B1226 := hN_gtl hN1228 (k1229).lt
    have k1230 := (k165.grown hg1191 (some_ne (by omega)))
    have lt_B144_B1226 := hN_gtl hN1228 (k1230).lt
    have lt_R_B1226 := hN_gtl hN1228 (kR1190).lt
    have hb1231 := low0 hb1193 hN1228.grw
    refine wpo_move (v := .pointer (some ⟨R, 0, none⟩)) e160 rfl ?_
    have k1232 := (kR1190.grown0 hN1228.grw)
    refine wpo_call (vs := [.pointer (some ⟨R, 0, none⟩), .int .i64 2]) gf_60 (args_cons rfl (args_cons rfl args_nil)) rfl (pick_c (p1 + 1) 2 (by omega) _ R bs _ _ _ k1232 (by omega) (SlLt.low1 hs hb1231 hlo) (by first | exact hb | exact fun b h => hb b (List.mem_of_mem_take h)) (by first | omega | (rw [List.length_take]; omega))) ?_
    rintro _ w1238 ⟨k1233, rfl, hk1234, hk1235, kR1236, hg1237⟩
    have hb1239 := grown_trans hb1231 hg1237
    refine wpo_indexAddr (o' := (k1233).toNat * 1) es_43 rfl rfl (by omega) (by omega) (by omega) rfl ?_
    have k1240 := (hN1228.blk.grown hg1237 (some_ne (by omega)))
    obtain ⟨x1241, hx1242⟩ := get_lt (l := ([(-1), 4] : List Int)) (i := (k1233).toNat) (show (k1233).toNat < 2 by omega)
    have hm1243 := List.mem_of_getElem? hx1242
    simp only [List.mem_cons, List.not_mem_nil, or_false] at hm1243
    refine wpo_load1 (v := .int .i64 x1241) ot_3 rfl ((rows_range wide_int k1240 hx1242) 0 _ rfl) rfl ?_
    refine wpo_fieldAddr (o' := 2) fo_76_2 e163 rfl rfl ?_
    have k1244 := ((k1230.grown0 hN1228.grw).grown hg1237 (some_ne (by omega)))
    refine wpo_store1 (v := .int .i64 x1241) (cs' := #[.int .i64 kk, .int .i64 k114, .int .i64 x1241, .int .i64 k130, .int .i64 k137]) ot_3 rfl rfl rfl k1244 (Nat.le_of_ble_eq_true rfl) rfl ?_
    intro w1245 hS1246
    have hb1247 := low1 hb1239 hS1246.grw (by omega)
    refine wpo_nil ?_
    refine blk_n ?_
    refine thn_n ?_
    refine wpf_seq_region ?_
    refine wpo_loadn (vs := [.int .i64 kk, .int .i64 k114, .int .i64 x1241, .int .i64 k130, .int .i64 k137]) rt_76 e163 rfl (hS1246.blk.rangeL 0 5 rfl) rfl ?_
    have k1248 := (((k1229.grown0 hN1228.grw).grown hg1237 (some_ne (by omega))).grown hS1246.grw (some_ne (by omega)))
    refine wpo_storen (vs := [.int .i64 kk, .int .i64 k114, .int .i64 x1241, .int .i64 k130, .int .i64 k137]) (cs' := #[.int .i64 kk, .int .i64 k114, .int .i64 x1241, .int .i64 k130, .int .i64 k137]) rt_76 e162 rfl rfl (by simp [Value.oneCell']) k1248 (Nat.le_of_ble_eq_true rfl) rfl ?_
    intro w1249 hS1250
    have hb1251 := low1 hb1247 hS1250.grw (by omega)
    refine wpo_nil ?_
    refine wpf_ret ?_
    have k1252 := ((kR1236.grown hS1246.grw (some_ne (by omega))).grown hS1250.grw (some_ne (by omega)))
    refine ⟨.agg #[.int .i64 kk, .int .i64 k114, .int .i64 x1241, .int .i64 k130, .int .i64 k137], resC rfl (resCell_mk (vs := [.int .i64 kk, .int .i64 k114, .int .i64 x1241, .int .i64 k130, .int .i64 k137]) rt_76 e162 rfl (hS1250.blk.rangeL 0 5 rfl)), ⟨kk, k114, x1241, k130, k137⟩, (p1 + 1 + 1), rfl, ⟨⟨show (0 : Int) ≤ kk by omega, show kk ≤ (10 : Int) by omega⟩, ⟨show (1 : Int) ≤ k114 by omega, show k114 ≤ (ms.length : Int) by omega⟩, ⟨show (-1 : Int) ≤ x1241 by omega, show x1241 ≤ (4 : Int) by omega⟩, ⟨show (0 : Int) ≤ k130 by omega, show k130 ≤ (3 : Int) by omega⟩, show (-1 : Int) ≤ k137 by omega, show k137 ≤ (100 : Int) by omega⟩, by omega, by omega, k1252, hb1251⟩
   ·
    have h1253 := of_decide_eq_false h1224
    refine wpf_seq_region ?_
    refine wpo_eql (q := decide (k1187 = 2)) rfl rfl rfl rfl ?_
    refine wpo_assign (v := .bool (decide (k1187 = 2))) rfl rfl ?_
    refine wpo_nil ?_
    refine wpf_cond rfl (fun h1254 => ?_) (fun h1254 => ?_)
    ·
     have h1255 := of_decide_eq_true h1254
     refine wpf_region ?_
     refine wpo_buildSlice (ps := [(0, .int .i64 (-1)), (1, .int .i64 100)]) (e := 3) (cs := (([(-1), 100] : List Int).flatMap icell).toArray) (parts_cons rfl (parts_cons rfl parts_nil)) (fun _ => by kernel_rfl) rfl ?_
     intro B1256 w1257 hN1258
     have hlB1256 := hN_ge hN1258 hb1193
     have hhiB1256 : hi ≤ B1256 := Nat.le_trans (Nat.le_trans hhs hg1191.size) (Nat.le_of_eq hN1258.eq.symm)
     have k1259 := (k164.grown hg1191 (some_ne (by omega)))
     have lt_B101_B1256 := hN_gtl hN1258 (k1259).lt
     have k1260 := (k165.grown hg1191 (some_ne (by omega)))
     have lt_B144_B1256 := hN_gtl hN1258 (k1260).lt
     have lt_R_B1256 := hN_gtl hN1258 (kR1190).lt
     have hb1261 := low0 hb1193 hN1258.grw
     refine wpo_move (v := .pointer (some ⟨R, 0, none⟩)) e160 rfl ?_
     have k1262 := (kR1190.grown0 hN1258.grw)
     refine wpo_call (vs := [.pointer (some ⟨R, 0, none⟩), .int .i64 2]) gf_60 (args_cons rfl (args_cons rfl args_nil)) rfl (pick_c (p1 + 1) 2 (by omega) _ R bs _ _ _ k1262 (by omega) (SlLt.low1 hs hb1261 hlo) (by first | exact hb | exact fun b h => hb b (List.mem_of_mem_take h)) (by first | omega | (rw [List.length_take]; omega))) ?_
     rintro _ w1268 ⟨k1263, rfl, hk1264, hk1265, kR1266, hg1267⟩
     have hb1269 := grown_trans hb1261 hg1267
     refine wpo_indexAddr (o' := (k1263).toNat * 1) es_43 rfl rfl (by omega) (by omega) (by omega) rfl ?_
     have k1270 := (hN1258.blk.grown hg1267 (some_ne (by omega)))
     obtain ⟨x1271, hx1272⟩ := get_lt (l := ([(-1), 100] : List Int)) (i := (k1263).toNat) (show (k1263).toNat < 2 by omega)
     have hm1273 := List.mem_of_getElem? hx1272
     simp only [List.mem_cons, List.not_mem_nil, or_false] at hm1273
     refine wpo_load1 (v := .int .i64 x1271) ot_3 rfl ((rows_range wide_int k1270 hx1272) 0 _ rfl) rfl ?_
     refine wpo_fieldAddr (o' := 4) fo_76_4 e163 rfl rfl ?_
     have k1274 := ((k1260.grown0 hN1258.grw).grown hg1267 (some_ne (by omega)))
     refine wpo_store1 (v := .int .i64 x1271) (cs' := #[.int .i64 kk, .int .i64 k114, .int .i64 aa, .int .i64 k130, .int .i64 x1271]) ot_3 rfl rfl rfl k1274 (Nat.le_of_ble_eq_true rfl) rfl ?_
     intro w1275 hS1276
     have hb1277 := low1 hb1269 hS1276.grw (by omega)
     refine wpo_nil ?_
     refine blk_n ?_
     refine thn_n ?_
     refine wpf_seq_region ?_
     refine wpo_loadn (vs := [.int .i64 kk, .int .i64 k114, .int .i64 aa, .int .i64 k130, .int .i64 x1271]) rt_76 e163 rfl (hS1276.blk.rangeL 0 5 rfl) rfl ?_
     have k1278 := (((k1259.grown0 hN1258.grw).grown hg1267 (some_ne (by omega))).grown hS1276.grw (some_ne (by omega)))
     refine wpo_storen (vs := [.int .i64 kk, .int .i64 k114, .int .i64 aa, .int .i64 k130, .int .i64 x1271]) (cs' := #[.int .i64 kk, .int .i64 k114, .int .i64 aa, .int .i64 k130, .int .i64 x1271]) rt_76 e162 rfl rfl (by simp [Value.oneCell']) k1278 (Nat.le_of_ble_eq_true rfl) rfl ?_
     intro w1279 hS1280
     have hb1281 := low1 hb1277 hS1280.grw (by omega)
     refine wpo_nil ?_
     refine wpf_ret ?_
     have k1282 := ((kR1266.grown hS1276.grw (some_ne (by omega))).grown hS1280.grw (some_ne (by omega)))
     refine ⟨.agg #[.int .i64 kk, .int .i64 k114, .int .i64 aa, .int .i64 k130, .int .i64 x1271], resC rfl (resCell_mk (vs := [.int .i64 kk, .int .i64 k114, .int .i64 aa, .int .i64 k130, .int .i64 x1271]) rt_76 e162 rfl (hS1280.blk.rangeL 0 5 rfl)), ⟨kk, k114, aa, k130, x1271⟩, (p1 + 1 + 1), rfl, ⟨⟨show (0 : Int) ≤ kk by omega, show kk ≤ (10 : Int) by omega⟩, ⟨show (1 : Int) ≤ k114 by omega, show k114 ≤ (ms.length : Int) by omega⟩, ⟨show (-1 : Int) ≤ aa by omega, show aa ≤ (4 : Int) by omega⟩, ⟨show (0 : Int) ≤ k130 by omega, show k130 ≤ (3 : Int) by omega⟩, show (-1 : Int) ≤ x1271 by omega, show x1271 ≤ (100 : Int) by omega⟩, by omega, by omega, k1282, hb1281⟩
    ·
     have h1283 := of_decide_eq_false h1254
     refine wpf_skip ?_
     refine blk_n ?_
     refine thn_n ?_
     refine wpf_seq_region ?_
     have k1284 := (k165.grown hg1191 (some_ne (by omega)))
     refine wpo_loadn (vs := [.int .i64 kk, .int .i64 k114, .int .i64 aa, .int .i64 k130, .int .i64 k137]) rt_76 e163 rfl (k1284.rangeL 0 5 rfl) rfl ?_
     have k1285 := (k164.grown hg1191 (some_ne (by omega)))
     refine wpo_storen (vs := [.int .i64 kk, .int .i64 k114, .int .i64 aa, .int .i64 k130, .int .i64 k137]) (cs' := #[.int .i64 kk, .int .i64 k114, .int .i64 aa, .int .i64 k130, .int .i64 k137]) rt_76 e162 rfl rfl (by simp [Value.oneCell']) k1285 (Nat.le_of_ble_eq_true rfl) rfl ?_
     intro w1286 hS1287
     have hb1288 := low1 hb1193 hS1287.grw (by omega)
     refine wpo_nil ?_
     refine wpf_ret ?_
     have k1289 := (kR1190.grown hS1287.grw (some_ne (by omega)))
     refine ⟨.agg #[.int .i64 kk, .int .i64 k114, .int .i64 aa, .int .i64 k130, .int .i64 k137], resC rfl (resCell_mk (vs := [.int .i64 kk, .int .i64 k114, .int .i64 aa, .int .i64 k130, .int .i64 k137]) rt_76 e162 rfl (hS1287.blk.rangeL 0 5 rfl)), ⟨kk, k114, aa, k130, k137⟩, (p1 + 1), rfl, ⟨⟨show (0 : Int) ≤ kk by omega, show kk ≤ (10 : Int) by omega⟩, ⟨show (1 : Int) ≤ k114 by omega, show k114 ≤ (ms.length : Int) by omega⟩, ⟨show (-1 : Int) ≤ aa by omega, show aa ≤ (4 : Int) by omega⟩, ⟨show (0 : Int) ≤ k130 by omega, show k130 ≤ (3 : Int) by omega⟩, show (-1 : Int) ≤ k137 by omega, show k137 ≤ (100 : Int) by omega⟩, by omega, by omega, k1289, hb1288⟩
theorem es_145 : elemSz Try.prog 145 = some 1 := by kernel_rfl
theorem gf_120 : goFn Try.prog 120 = true := by kernel_rfl
theorem gf_122 : goFn Try.prog 122 = true := by kernel_rfl
theorem gf_123 : goFn Try.prog 123 = true := by kernel_rfl
theorem gf_124 : goFn Try.prog 124 = true := by kernel_rfl
theorem l11Needs_c (q : Int) (w : World) : CallsR Try.prog 123 #[.int .i64 q] w (fun v w' => ∃ B : Nat, v = .slice (some ⟨B, 0, none⟩) 4 4 ∧ w.heap.size ≤ B ∧ Blk w' B 4 #[.bool (need0 q), .bool (need1 q), .bool (need0 q), .bool (need1 q)] ∧ w.grownBy w' none) := by
 refine calls_of_wpf (n := 12) Try.func123 rfl Try.ntmps123 rfl ?_
 have hb0 := World.grownBy.refl w none
 refine wpf_seq_region ?_
 refine wpo_assign (v := .slice none 0 0) rfl rfl ?_
 refine wpo_nil ?_
 refine wpf_seq ?_
 refine wpf_seq_region ?_
 refine wpo_move (v := .int .i64 q) rfl rfl ?_
 refine wpo_nil ?_
 refine wpf_block ?_
 refine wpf_seq ?_
 refine wpf_seq_region ?_
 refine wpo_eql (q := decide (q = 1)) rfl rfl rfl rfl ?_
 refine wpo_assign (v := .bool (decide (q = 1))) rfl rfl ?_
 refine wpo_nil ?_
 refine wpf_cond rfl (fun h101 => ?_) (fun h101 => ?_)
 ·
  have h102 := of_decide_eq_true h101
  refine wpf_skip ?_
  refine thn_n ?_
  refine wpf_condt rfl h101 ?_
  refine wpf_seq_region ?_
  refine wpo_buildSlice (ps := [(0, .bool true), (1, .bool false), (2, .bool true), (3, .bool false)]) (e := 4) (cs := #[.bool true, .bool false, .bool true, .bool false]) (parts_cons rfl (parts_cons rfl (parts_cons rfl (parts_cons rfl parts_nil)))) (fun _ => by kernel_rfl) rfl ?_
  intro B103 w104 hN105
  have hlB103 := hN_ge hN105 hb0
  have hb106 := low0 hb0 hN105.grw
  refine wpo_assign (v := .slice (some ⟨B103, 0, none⟩) 4 4) rfl rfl ?_
  refine wpo_nil ?_
  refine wpf_ret ?_
  refine blk_r ?_
  refine thn_r ?_
  have e0 : need0 q = true := by unfold need0; simp [h102]
  have e1 : need1 q = false := by unfold need1; simp [h102]
  refine ⟨.slice (some ⟨B103, 0, none⟩) 4 4, res1 rfl rfl, B103, rfl, hlB103, ?_, hb106⟩
  rw [e0, e1]
  exact hN105.blk
 ·
  have h107 := of_decide_eq_false h101
  refine wpf_region ?_
  refine wpo_eql (q := decide (q = 4)) rfl rfl rfl rfl ?_
  refine wpo_assign (v := .bool (decide (q = 4))) rfl rfl ?_
  refine wpo_nil ?_
  refine thn_n ?_
  refine wpf_cond rfl (fun h108 => ?_) (fun h108 => ?_)
  ·
   have h109 := of_decide_eq_true h108
   refine wpf_seq_region ?_
   refine wpo_buildSlice (ps := [(0, .bool true), (1, .bool false), (2, .bool true), (3, .bool false)]) (e := 4) (cs := #[.bool true, .bool false, .bool true, .bool false]) (parts_cons rfl (parts_cons rfl (parts_cons rfl (parts_cons rfl parts_nil)))) (fun _ => by kernel_rfl) rfl ?_
   intro B110 w111 hN112
   have hlB110 := hN_ge hN112 hb0
   have hb113 := low0 hb0 hN112.grw
   refine wpo_assign (v := .slice (some ⟨B110, 0, none⟩) 4 4) rfl rfl ?_
   refine wpo_nil ?_
   refine wpf_ret ?_
   refine blk_r ?_
   refine thn_r ?_
   have e0 : need0 q = true := by unfold need0; simp [h107, h109]
   have e1 : need1 q = false := by unfold need1; simp [h107, h109]
   refine ⟨.slice (some ⟨B110, 0, none⟩) 4 4, res1 rfl rfl, B110, rfl, hlB110, ?_, hb113⟩
   rw [e0, e1]
   exact hN112.blk
  ·
   have h114 := of_decide_eq_false h108
   refine wpf_seq_region ?_
   refine wpo_eql (q := decide (q = 7)) rfl rfl rfl rfl ?_
   refine wpo_assign (v := .bool (decide (q = 7))) rfl rfl ?_
   refine wpo_nil ?_
   refine wpf_cond rfl (fun h115 => ?_) (fun h115 => ?_)
   ·
    have h116 := of_decide_eq_true h115
    refine wpf_seq_region ?_
    refine wpo_buildSlice (ps := [(0, .bool true), (1, .bool true), (2, .bool true), (3, .bool true)]) (e := 4) (cs := #[.bool true, .bool true, .bool true, .bool true]) (parts_cons rfl (parts_cons rfl (parts_cons rfl (parts_cons rfl parts_nil)))) (fun _ => by kernel_rfl) rfl ?_
    intro B117 w118 hN119
    have hlB117 := hN_ge hN119 hb0
    have hb120 := low0 hb0 hN119.grw
    refine wpo_assign (v := .slice (some ⟨B117, 0, none⟩) 4 4) rfl rfl ?_
    refine wpo_nil ?_
    refine wpf_ret ?_
    refine blk_r ?_
    refine thn_r ?_
    have e0 : need0 q = true := by unfold need0; simp [h107, h114, h116]
    have e1 : need1 q = true := by unfold need1; simp [h107, h114, h116]
    refine ⟨.slice (some ⟨B117, 0, none⟩) 4 4, res1 rfl rfl, B117, rfl, hlB117, ?_, hb120⟩
    rw [e0, e1]
    exact hN119.blk
   ·
    have h121 := of_decide_eq_false h115
    refine wpf_skip ?_
    refine blk_n ?_
    refine thn_n ?_
    refine wpf_seq_region ?_
    refine wpo_buildSlice (ps := [(0, .bool false), (1, .bool true), (2, .bool false), (3, .bool true)]) (e := 4) (cs := #[.bool false, .bool true, .bool false, .bool true]) (parts_cons rfl (parts_cons rfl (parts_cons rfl (parts_cons rfl parts_nil)))) (fun _ => by kernel_rfl) rfl ?_
    intro B122 w123 hN124
    have hlB122 := hN_ge hN124 hb0
    have hb125 := low0 hb0 hN124.grw
    refine wpo_assign (v := .slice (some ⟨B122, 0, none⟩) 4 4) rfl rfl ?_
    refine wpo_nil ?_
    refine wpf_ret ?_
    have e0 : need0 q = false := by unfold need0; simp [h107, h114, h121]
    have e1 : need1 q = true := by unfold need1; simp [h107, h114, h121]
    refine ⟨.slice (some ⟨B122, 0, none⟩) 4 4, res1 rfl rfl, B122, rfl, hlB122, ?_, hb125⟩
    rw [e0, e1]
    exact hN124.blk
end Go.Proofs.Ytlkmdoebmklbbaa
