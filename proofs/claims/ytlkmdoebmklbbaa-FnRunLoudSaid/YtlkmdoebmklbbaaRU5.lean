/- Walks, printed by a program of mine (gen.py) out of the functions. -/
import Derived.Test.YtlkmdoebmklbbaaRU4
namespace Go.Proofs.Ytlkmdoebmklbbaa
open Go.RowKit Go.Dw
set_option maxRecDepth 100000
set_option maxHeartbeats 4000000
set_option linter.unusedSimpArgs false
set_option linter.unusedVariables false
theorem l12Far_c (q : Cl) (r : Rt) (lo B cap : Nat) (ms : List MTh) (w : World) (hB : Dw.Own w B 45 8 cap ms.length (ms.flatMap MTh.cells)) (hR : RowsO 29 3 lo w ms) (hlo : lo ≤ B) (hi : Nat) (hH : HiO hi ms) (hBlt : B < hi) (hhi : hi ≤ w.heap.size) (hF : FarOk (tabT ms) q r) : CallsR Try.prog 121 #[.slice (some ⟨B, 0, none⟩) ms.length cap, .agg #[.int .i64 q.kind, .int .i64 q.run, .int .i64 q.a, .int .i64 q.b, .int .i64 q.n], .agg #[.int .i64 r.th, .int .i64 r.ve, .bool r.rd, .bool r.wr, .bool r.wk]] w (fun v w' => ∃ ms' : List MTh, v = .int .i64 (far (tabT ms) q r).2 ∧ ms'.length = ms.length ∧ Dw.Own w' B 45 8 cap ms'.length (ms'.flatMap MTh.cells) ∧ RowsO 29 3 lo w' ms' ∧ tabT ms' = (far (tabT ms) q r).1 ∧ KeepsI lo hi [45, 29, 3] w w') := by
 refine calls_of_wpf (n := 143) Try.func121 rfl Try.ntmps121 rfl ?_
 have hb0 : KeepsI lo hi [45, 29, 3] w w := KeepsI.refl w
 have hlow : lo ≤ w.heap.size := by omega
 have hT := hF.tab
 have hco := callOk_iff hF.call
 have hkp := (kindAt_parts hF.run).1
 have h4 := run_slots hT hF.run
 have hth := hF.th
 rw [tabT_len] at hth
 have hml := tab_len hT
 have hkd := kindFor_k hF.kind hco.1
 rw [← mAt_th] at hkd
 have hrow := tab_thing hT (i := (r.th - 1).toNat) (by omega)
 have hln := TabLen.ok hT _ (List.mem_of_getElem? (mAt_get (show (r.th - 1).toNat < ms.length by omega)))
 have hcp := hF.copy
 have hve := ve_le hrow
 refine wpf_seq_region ?_
 refine wpo_box (v := .agg #[.int .i64 q.kind, .int .i64 q.run, .int .i64 q.a, .int .i64 q.b, .int .i64 q.n]) (cs := #[.int .i64 q.kind, .int .i64 q.run, .int .i64 q.a, .int .i64 q.b, .int .i64 q.n]) rfl rfl rfl ?_
 intro B101 w102 hN103
 have hlB101 := hN_geI hN103 hb0
 have lt_B_B101 := hN_gtl hN103 (hB).lt
 have hb104 := KeepsI.low hb0 hN103.grw
 refine wpo_box (v := .agg #[.int .i64 r.th, .int .i64 r.ve, .bool r.rd, .bool r.wr, .bool r.wk]) (cs := #[.int .i64 r.th, .int .i64 r.ve, .bool r.rd, .bool r.wr, .bool r.wk]) rfl rfl rfl ?_
 intro B105 w106 hN107
 have hlB105 := hN_geI hN107 hb104
 have k108 := (hB.grown0 hN103.grw)
 have lt_B_B105 := hN_gtl hN107 (k108).lt
 have lt_B101_B105 := hN_gtl hN107 (hN103.blk).lt
 have hb109 := KeepsI.low hb104 hN107.grw
 refine wpo_assign (v := .int .i64 0) rfl rfl ?_
 refine wpo_nil ?_
 refine wpf_seq_region ?_
 refine wpo_move (v := .slice (some ⟨B, 0, none⟩) ms.length cap) rfl rfl ?_
 refine wpo_fieldAddr (o' := 0) fo_29_0 rfl rfl rfl ?_
 refine wpo_load1 (v := .int .i64 r.th) ot_3 rfl (hN107.blk.cell rfl) rfl ?_
 refine wpo_sub (c := r.th - 1) rfl rfl (by omega) (by omega) (by omega) rfl ?_
 refine wpo_indexAddr (o' := (r.th - 1).toNat * 8) es_54 rfl rfl (by omega) (by omega) (by omega) rfl ?_
 have k110 := (k108.grown0 hN107.grw)
 refine wpo_loadn (vs := [.int .i64 ((mAt ms ((r.th - 1).toNat)).t.kind), .int .i64 ((mAt ms ((r.th - 1).toNat)).t.lab.s), .int .i64 ((mAt ms ((r.th - 1).toNat)).t.lab.v), .int .i64 ((mAt ms ((r.th - 1).toNat)).t.ve), .int .i64 ((mAt ms ((r.th - 1).toNat)).t.num), .slice ((mAt ms ((r.th - 1).toNat)).sa) ((mAt ms ((r.th - 1).toNat)).t.slots.length) ((mAt ms ((r.th - 1).toNat)).sc), .slice ((mAt ms ((r.th - 1).toNat)).qa) ((mAt ms ((r.th - 1).toNat)).t.queue.length) ((mAt ms ((r.th - 1).toNat)).qc), .int .i64 ((mAt ms ((r.th - 1).toNat)).t.to)]) rt_45 rfl rfl (range_sub (Own.range wide_mth k110 (mAt_get (show (r.th - 1).toNat < ms.length by omega))) 0 8 rfl) rfl ?_
 refine wpo_alloc (cs := #[.int .i64 0, .int .i64 0, .int .i64 0, .int .i64 0, .int .i64 0, .slice none 0 0, .slice none 0 0, .int .i64 0]) zt_45 rfl rfl ?_
 intro B111 w112 hN113
 have hlB111 := hN_geI hN113 hb109
 have lt_B_B111 := hN_gtl hN113 (k110).lt
 have k114 := (hN103.blk.grown0 hN107.grw)
 have lt_B101_B111 := hN_gtl hN113 (k114).lt
 have lt_B105_B111 := hN_gtl hN113 (hN107.blk).lt
 have hb115 := KeepsI.low hb109 hN113.grw
 refine wpo_storen (vs := [.int .i64 ((mAt ms ((r.th - 1).toNat)).t.kind), .int .i64 ((mAt ms ((r.th - 1).toNat)).t.lab.s), .int .i64 ((mAt ms ((r.th - 1).toNat)).t.lab.v), .int .i64 ((mAt ms ((r.th - 1).toNat)).t.ve), .int .i64 ((mAt ms ((r.th - 1).toNat)).t.num), .slice ((mAt ms ((r.th - 1).toNat)).sa) ((mAt ms ((r.th - 1).toNat)).t.slots.length) ((mAt ms ((r.th - 1).toNat)).sc), .slice ((mAt ms ((r.th - 1).toNat)).qa) ((mAt ms ((r.th - 1).toNat)).t.queue.length) ((mAt ms ((r.th - 1).toNat)).qc), .int .i64 ((mAt ms ((r.th - 1).toNat)).t.to)]) (cs' := #[.int .i64 ((mAt ms ((r.th - 1).toNat)).t.kind), .int .i64 ((mAt ms ((r.th - 1).toNat)).t.lab.s), .int .i64 ((mAt ms ((r.th - 1).toNat)).t.lab.v), .int .i64 ((mAt ms ((r.th - 1).toNat)).t.ve), .int .i64 ((mAt ms ((r.th - 1).toNat)).t.num), .slice ((mAt ms ((r.th - 1).toNat)).sa) ((mAt ms ((r.th - 1).toNat)).t.slots.length) ((mAt ms ((r.th - 1).toNat)).sc), .slice ((mAt ms ((r.th - 1).toNat)).qa) ((mAt ms ((r.th - 1).toNat)).t.queue.length) ((mAt ms ((r.th - 1).toNat)).qc), .int .i64 ((mAt ms ((r.th - 1).toNat)).t.to)]) rt_45 rfl rfl rfl (by simp [Value.oneCell']) hN113.blk (Nat.le_of_ble_eq_true rfl) rfl ?_
 intro w116 hS117
 have hb118 := KeepsI.new hb115 hS117.grw (by omega)
 refine wpo_nil ?_
 refine wpf_seq_region ?_
 refine wpo_move (v := .slice (some ⟨B, 0, none⟩) ms.length cap) rfl rfl ?_
 refine wpo_fieldAddr (o' := 1) fo_76_1 rfl rfl rfl ?_
 have k119 := ((k114.grown0 hN113.grw).grown hS117.grw (some_ne (by omega)))
 refine wpo_load1 (v := .int .i64 q.run) ot_3 rfl (k119.cell rfl) rfl ?_
 refine wpo_sub (c := q.run - 1) rfl rfl (by omega) (by omega) (by omega) rfl ?_
 refine wpo_indexAddr (o' := (q.run - 1).toNat * 8) es_54 rfl rfl (by omega) (by omega) (by omega) rfl ?_
 have k120 := ((k110.grown0 hN113.grw).grown hS117.grw (some_ne (by omega)))
 refine wpo_loadn (vs := [.int .i64 ((mAt ms ((q.run - 1).toNat)).t.kind), .int .i64 ((mAt ms ((q.run - 1).toNat)).t.lab.s), .int .i64 ((mAt ms ((q.run - 1).toNat)).t.lab.v), .int .i64 ((mAt ms ((q.run - 1).toNat)).t.ve), .int .i64 ((mAt ms ((q.run - 1).toNat)).t.num), .slice ((mAt ms ((q.run - 1).toNat)).sa) ((mAt ms ((q.run - 1).toNat)).t.slots.length) ((mAt ms ((q.run - 1).toNat)).sc), .slice ((mAt ms ((q.run - 1).toNat)).qa) ((mAt ms ((q.run - 1).toNat)).t.queue.length) ((mAt ms ((q.run - 1).toNat)).qc), .int .i64 ((mAt ms ((q.run - 1).toNat)).t.to)]) rt_45 rfl rfl (range_sub (Own.range wide_mth k120 (mAt_get (show (q.run - 1).toNat < ms.length by omega))) 0 8 rfl) rfl ?_
 refine wpo_alloc (cs := #[.int .i64 0, .int .i64 0, .int .i64 0, .int .i64 0, .int .i64 0, .slice none 0 0, .slice none 0 0, .int .i64 0]) zt_45 rfl rfl ?_
 intro B121 w122 hN123
 have hlB121 := hN_geI hN123 hb118
 have lt_B_B121 := hN_gtl hN123 (k120).lt
 have lt_B101_B121 := hN_gtl hN123 (k119).lt
 have k124 := ((hN107.blk.grown0 hN113.grw).grown hS117.grw (some_ne (by omega)))
 have lt_B105_B121 := hN_gtl hN123 (k124).lt
 have lt_B111_B121 := hN_gtl hN123 (hS117.blk).lt
 have hb125 := KeepsI.low hb118 hN123.grw
 refine wpo_storen (vs := [.int .i64 ((mAt ms ((q.run - 1).toNat)).t.kind), .int .i64 ((mAt ms ((q.run - 1).toNat)).t.lab.s), .int .i64 ((mAt ms ((q.run - 1).toNat)).t.lab.v), .int .i64 ((mAt ms ((q.run - 1).toNat)).t.ve), .int .i64 ((mAt ms ((q.run - 1).toNat)).t.num), .slice ((mAt ms ((q.run - 1).toNat)).sa) ((mAt ms ((q.run - 1).toNat)).t.slots.length) ((mAt ms ((q.run - 1).toNat)).sc), .slice ((mAt ms ((q.run - 1).toNat)).qa) ((mAt ms ((q.run - 1).toNat)).t.queue.length) ((mAt ms ((q.run - 1).toNat)).qc), .int .i64 ((mAt ms ((q.run - 1).toNat)).t.to)]) (cs' := #[.int .i64 ((mAt ms ((q.run - 1).toNat)).t.kind), .int .i64 ((mAt ms ((q.run - 1).toNat)).t.lab.s), .int .i64 ((mAt ms ((q.run - 1).toNat)).t.lab.v), .int .i64 ((mAt ms ((q.run - 1).toNat)).t.ve), .int .i64 ((mAt ms ((q.run - 1).toNat)).t.num), .slice ((mAt ms ((q.run - 1).toNat)).sa) ((mAt ms ((q.run - 1).toNat)).t.slots.length) ((mAt ms ((q.run - 1).toNat)).sc), .slice ((mAt ms ((q.run - 1).toNat)).qa) ((mAt ms ((q.run - 1).toNat)).t.queue.length) ((mAt ms ((q.run - 1).toNat)).qc), .int .i64 ((mAt ms ((q.run - 1).toNat)).t.to)]) rt_45 rfl rfl rfl (by simp [Value.oneCell']) hN123.blk (Nat.le_of_ble_eq_true rfl) rfl ?_
 intro w126 hS127
 have hb128 := KeepsI.new hb125 hS127.grw (by omega)
 refine wpo_nil ?_
 refine wpf_seq_region ?_
 refine wpo_assign (v := .int .i64 0) rfl rfl ?_
 refine wpo_nil ?_
 refine wpf_seq ?_
 refine wpf_seq_region ?_
 refine wpo_fieldAddr (o' := 0) fo_76_0 rfl rfl rfl ?_
 have k129 := ((k119.grown0 hN123.grw).grown hS127.grw (some_ne (by omega)))
 refine wpo_load1 (v := .int .i64 q.kind) ot_3 rfl (k129.cell rfl) rfl ?_
 refine wpo_nil ?_
 refine wpf_block ?_
 refine wpf_seq_region ?_
 refine wpo_eql (q := decide (q.kind = 1)) rfl rfl rfl rfl ?_
 refine wpo_assign (v := .bool (decide (q.kind = 1))) rfl rfl ?_
 refine wpo_nil ?_
 refine wpf_cond rfl (fun h130 => ?_) (fun h130 => ?_)
 ·
  have h131 := of_decide_eq_true h130
  refine wpf_seq_region ?_
  refine wpo_fieldAddr (o' := 4) fo_45_3 rfl rfl rfl ?_
  have k132 := ((hS117.blk.grown0 hN123.grw).grown hS127.grw (some_ne (by omega)))
  refine wpo_load1 (v := .int .i64 ((mAt ms ((r.th - 1).toNat)).t.num)) ot_3 rfl (k132.cell rfl) rfl ?_
  refine wpo_assign (v := .int .i64 ((mAt ms ((r.th - 1).toNat)).t.num)) rfl rfl ?_
  refine wpo_nil ?_
  refine wpf_ret ?_
  refine blk_r ?_
  refine thn_r ?_
  have hRO133 := (RowsO.typB (RowsO.low (RowsO.typB (RowsO.low (RowsO.low (RowsO.low hR hN103.grw) hN107.grw) hN113.grw) hS117.grw hN113.blk (by decide) (by decide)) hN123.grw) hS127.grw hN123.blk (by decide) (by decide))
  have k134 := ((k120.grown0 hN123.grw).grown hS127.grw (some_ne (by omega)))
  have hf : far (tabT ms) q r = (tabT (ms), (mAt ms ((r.th - 1).toNat)).t.num) := far_1 h130
  exact ⟨.int .i64 ((mAt ms ((r.th - 1).toNat)).t.num), res1 rfl rfl, ms, by rw [hf], by first | rfl | exact putT_len | (simp only [List.length_set, putT_len]), k134, hRO133, by rw [hf], hb128⟩
 ·
  have h135 := of_decide_eq_false h130
  refine wpf_seq_region ?_
  refine wpo_eql (q := decide (q.kind = 2)) rfl rfl rfl rfl ?_
  refine wpo_assign (v := .bool (decide (q.kind = 2))) rfl rfl ?_
  refine wpo_nil ?_
  refine wpf_cond rfl (fun h136 => ?_) (fun h136 => ?_)
  ·
   have h137 := of_decide_eq_true h136
   refine wpf_region ?_
   refine wpo_fieldAddr (o' := 4) fo_76_4 rfl rfl rfl ?_
   refine wpo_load1 (v := .int .i64 q.n) ot_3 rfl (k129.cell rfl) rfl ?_
   refine wpo_fieldAddr (o' := 4) fo_45_3 rfl rfl rfl ?_
   have k138 := ((hS117.blk.grown0 hN123.grw).grown hS127.grw (some_ne (by omega)))
   refine wpo_store1 (v := .int .i64 q.n) (cs' := #[.int .i64 ((mAt ms ((r.th - 1).toNat)).t.kind), .int .i64 ((mAt ms ((r.th - 1).toNat)).t.lab.s), .int .i64 ((mAt ms ((r.th - 1).toNat)).t.lab.v), .int .i64 ((mAt ms ((r.th - 1).toNat)).t.ve), .int .i64 q.n, .slice ((mAt ms ((r.th - 1).toNat)).sa) ((mAt ms ((r.th - 1).toNat)).t.slots.length) ((mAt ms ((r.th - 1).toNat)).sc), .slice ((mAt ms ((r.th - 1).toNat)).qa) ((mAt ms ((r.th - 1).toNat)).t.queue.length) ((mAt ms ((r.th - 1).toNat)).qc), .int .i64 ((mAt ms ((r.th - 1).toNat)).t.to)]) ot_3 rfl rfl rfl k138 (Nat.le_of_ble_eq_true rfl) rfl ?_
   intro w139 hS140
   have hb141 := KeepsI.new hb128 hS140.grw (by omega)
   refine wpo_nil ?_
   refine blk_n ?_
   refine thn_n ?_
   refine wpf_seq_region ?_
   refine wpo_move (v := .slice (some ⟨B, 0, none⟩) ms.length cap) rfl rfl ?_
   refine wpo_fieldAddr (o' := 0) fo_29_0 rfl rfl rfl ?_
   have k142 := (((k124.grown0 hN123.grw).grown hS127.grw (some_ne (by omega))).grown hS140.grw (some_ne (by omega)))
   refine wpo_load1 (v := .int .i64 r.th) ot_3 rfl (k142.cell rfl) rfl ?_
   refine wpo_sub (c := r.th - 1) rfl rfl (by omega) (by omega) (by omega) rfl ?_
   refine wpo_loadn (vs := [.int .i64 ((mAt ms ((r.th - 1).toNat)).t.kind), .int .i64 ((mAt ms ((r.th - 1).toNat)).t.lab.s), .int .i64 ((mAt ms ((r.th - 1).toNat)).t.lab.v), .int .i64 ((mAt ms ((r.th - 1).toNat)).t.ve), .int .i64 q.n, .slice ((mAt ms ((r.th - 1).toNat)).sa) ((mAt ms ((r.th - 1).toNat)).t.slots.length) ((mAt ms ((r.th - 1).toNat)).sc), .slice ((mAt ms ((r.th - 1).toNat)).qa) ((mAt ms ((r.th - 1).toNat)).t.queue.length) ((mAt ms ((r.th - 1).toNat)).qc), .int .i64 ((mAt ms ((r.th - 1).toNat)).t.to)]) rt_45 rfl rfl (hS140.blk.rangeL 0 8 rfl) rfl ?_
   refine wpo_indexAddr (o' := (r.th - 1).toNat * 8) es_54 rfl rfl (by omega) (by omega) (by omega) rfl ?_
   have k143 := (((k120.grown0 hN123.grw).grown hS127.grw (some_ne (by omega))).grown hS140.grw (some_ne (by omega)))
   have hRO147 := (RowsO.typB (RowsO.typB (RowsO.low (RowsO.typB (RowsO.low (RowsO.low (RowsO.low hR hN103.grw) hN107.grw) hN113.grw) hS117.grw hN113.blk (by decide) (by decide)) hN123.grw) hS127.grw hN123.blk (by decide) (by decide)) hS140.grw k138 (by decide) (by decide))
   refine wpo_storenO (g := MTh.cells) (z' := (⟨⟨(mAt ms ((r.th - 1).toNat)).t.kind, ((mAt ms ((r.th - 1).toNat)).t.lab), (mAt ms ((r.th - 1).toNat)).t.ve, q.n, (mAt ms ((r.th - 1).toNat)).t.slots, (mAt ms ((r.th - 1).toNat)).t.queue, (mAt ms ((r.th - 1).toNat)).t.to⟩, (mAt ms ((r.th - 1).toNat)).sa, (mAt ms ((r.th - 1).toNat)).sc, (mAt ms ((r.th - 1).toNat)).qa, (mAt ms ((r.th - 1).toNat)).qc⟩ : MTh)) rt_45 rfl rfl (onec_mth _) wide_mth k143 (by omega) rfl ?_
   intro w144 hO145 hg146
   have hb148 := KeepsI.own hb141 hg146 k143 (by decide) (by omega) (by omega)
   have hRO149 : RowsO 29 3 lo w144 (ms.set (r.th - 1).toNat (⟨⟨(mAt ms ((r.th - 1).toNat)).t.kind, ((mAt ms ((r.th - 1).toNat)).t.lab), (mAt ms ((r.th - 1).toNat)).t.ve, q.n, (mAt ms ((r.th - 1).toNat)).t.slots, (mAt ms ((r.th - 1).toNat)).t.queue, (mAt ms ((r.th - 1).toNat)).t.to⟩, (mAt ms ((r.th - 1).toNat)).sa, (mAt ms ((r.th - 1).toNat)).sc, (mAt ms ((r.th - 1).toNat)).qa, (mAt ms ((r.th - 1).toNat)).qc⟩ : MTh)) := RowsO.set (RowsO.own hRO147 hg146 k143 (by decide) (by decide)) (show (r.th - 1).toNat < ms.length by omega) ⟨rfl, rfl, rfl⟩ ⟨rfl, rfl, rfl⟩
   refine wpo_nil ?_
   refine wpf_seq_region ?_
   refine wpo_move (v := .int .i64 0) rfl rfl ?_
   refine wpo_assign (v := .int .i64 0) rfl rfl ?_
   refine wpo_nil ?_
   refine wpf_ret ?_
   have hf : far (tabT ms) q r = (tabT (ms.set (r.th - 1).toNat (⟨⟨(mAt ms ((r.th - 1).toNat)).t.kind, ((mAt ms ((r.th - 1).toNat)).t.lab), (mAt ms ((r.th - 1).toNat)).t.ve, q.n, (mAt ms ((r.th - 1).toNat)).t.slots, (mAt ms ((r.th - 1).toNat)).t.queue, (mAt ms ((r.th - 1).toNat)).t.to⟩, (mAt ms ((r.th - 1).toNat)).sa, (mAt ms ((r.th - 1).toNat)).sc, (mAt ms ((r.th - 1).toNat)).qa, (mAt ms ((r.th - 1).toNat)).qc⟩ : MTh)), 0) := far_2 h136 rfl
   exact ⟨.int .i64 0, res1 rfl rfl, ms.set (r.th - 1).toNat (⟨⟨(mAt ms ((r.th - 1).toNat)).t.kind, ((mAt ms ((r.th - 1).toNat)).t.lab), (mAt ms ((r.th - 1).toNat)).t.ve, q.n, (mAt ms ((r.th - 1).toNat)).t.slots, (mAt ms ((r.th - 1).toNat)).t.queue, (mAt ms ((r.th - 1).toNat)).t.to⟩, (mAt ms ((r.th - 1).toNat)).sa, (mAt ms ((r.th - 1).toNat)).sc, (mAt ms ((r.th - 1).toNat)).qa, (mAt ms ((r.th - 1).toNat)).qc⟩ : MTh), by rw [hf], by first | rfl | exact putT_len | (simp only [List.length_set, putT_len]), hO145, hRO149, by rw [hf], hb148⟩
  ·
   have h150 := of_decide_eq_false h136
   refine wpf_seq_region ?_
   refine wpo_eql (q := decide (q.kind = 4)) rfl rfl rfl rfl ?_
   refine wpo_assign (v := .bool (decide (q.kind = 4))) rfl rfl ?_
   refine wpo_nil ?_
   refine wpf_cond rfl (fun h151 => ?_) (fun h151 => ?_)
   ·
    have hq152 := of_decide_eq_true h151
    have hs4 : (mAt ms (r.th - 1).toNat).t.slots.length = 4 := th_four hrow (Or.inl (by omega))
    have h153 := of_decide_eq_true h151
    refine wpf_seq_region ?_
    refine wpo_fieldAddr (o' := 5) fo_45_4 rfl rfl rfl ?_
    have k154 := ((hS117.blk.grown0 hN123.grw).grown hS127.grw (some_ne (by omega)))
    refine wpo_load1 (v := .slice ((mAt ms ((r.th - 1).toNat)).sa) ((mAt ms ((r.th - 1).toNat)).t.slots.length) ((mAt ms ((r.th - 1).toNat)).sc)) ot_27 rfl (k154.cell rfl) rfl ?_
    refine wpo_fieldAddr (o' := 4) fo_76_4 rfl rfl rfl ?_
    refine wpo_load1 (v := .int .i64 q.n) ot_3 rfl (k129.cell rfl) rfl ?_
    refine wpo_rem (c := q.n % 4) rfl rfl (by omega) (by omega) (by omega) rfl rfl ?_
    have hRO155 := (RowsO.typB (RowsO.low (RowsO.typB (RowsO.low (RowsO.low (RowsO.low hR hN103.grw) hN107.grw) hN113.grw) hS117.grw hN113.blk (by decide) (by decide)) hN123.grw) hS127.grw hN123.blk (by decide) (by decide))
    obtain ⟨S156, hSa157, hSl158, hSO159⟩ := RowsO.slot hRO155 (show (r.th - 1).toNat < ms.length by omega) (by omega)
    have hSh160 := hH _ (List.mem_of_getElem? (mAt_get (show (r.th - 1).toNat < ms.length by omega))) _ (Or.inl hSa157)
    have k162 := ((k120.grown0 hN123.grw).grown hS127.grw (some_ne (by omega)))
    have hSn161 := own_ne k162 hSO159 (by decide)
    refine wpo_indexE es_27 rfl rfl hSa157 (Nat.zero_add _) (by omega) (by omega) rfl ?_
    refine wpo_loadn (vs := [.int .i64 ((rAt ((mAt ms ((r.th - 1).toNat)).t.slots) ((q.n % 4).toNat)).th), .int .i64 ((rAt ((mAt ms ((r.th - 1).toNat)).t.slots) ((q.n % 4).toNat)).ve), .bool ((rAt ((mAt ms ((r.th - 1).toNat)).t.slots) ((q.n % 4).toNat)).rd), .bool ((rAt ((mAt ms ((r.th - 1).toNat)).t.slots) ((q.n % 4).toNat)).wr), .bool ((rAt ((mAt ms ((r.th - 1).toNat)).t.slots) ((q.n % 4).toNat)).wk)]) rt_29 rfl rfl (range_sub (Own.range wide_rt hSO159 (rAt_get (show (q.n % 4).toNat < ((mAt ms ((r.th - 1).toNat)).t.slots).length by omega))) 0 5 rfl) rfl ?_
    refine wpo_alloc (cs := #[.int .i64 0, .int .i64 0, .bool false, .bool false, .bool false]) zt_29 rfl rfl ?_
    intro B163 w164 hN165
    have hlB163 := hN_geI hN165 hb128
    have lt_B_B163 := hN_gtl hN165 (k162).lt
    have lt_B101_B163 := hN_gtl hN165 (k129).lt
    have k166 := ((k124.grown0 hN123.grw).grown hS127.grw (some_ne (by omega)))
    have lt_B105_B163 := hN_gtl hN165 (k166).lt
    have lt_B111_B163 := hN_gtl hN165 (k154).lt
    have lt_B121_B163 := hN_gtl hN165 (hS127.blk).lt
    have lt_S156_B163 := hN_gtl hN165 (hSO159).lt
    have hb167 := KeepsI.low hb128 hN165.grw
    refine wpo_storen (vs := [.int .i64 ((rAt ((mAt ms ((r.th - 1).toNat)).t.slots) ((q.n % 4).toNat)).th), .int .i64 ((rAt ((mAt ms ((r.th - 1).toNat)).t.slots) ((q.n % 4).toNat)).ve), .bool ((rAt ((mAt ms ((r.th - 1).toNat)).t.slots) ((q.n % 4).toNat)).rd), .bool ((rAt ((mAt ms ((r.th - 1).toNat)).t.slots) ((q.n % 4).toNat)).wr), .bool ((rAt ((mAt ms ((r.th - 1).toNat)).t.slots) ((q.n % 4).toNat)).wk)]) (cs' := #[.int .i64 ((rAt ((mAt ms ((r.th - 1).toNat)).t.slots) ((q.n % 4).toNat)).th), .int .i64 ((rAt ((mAt ms ((r.th - 1).toNat)).t.slots) ((q.n % 4).toNat)).ve), .bool ((rAt ((mAt ms ((r.th - 1).toNat)).t.slots) ((q.n % 4).toNat)).rd), .bool ((rAt ((mAt ms ((r.th - 1).toNat)).t.slots) ((q.n % 4).toNat)).wr), .bool ((rAt ((mAt ms ((r.th - 1).toNat)).t.slots) ((q.n % 4).toNat)).wk)]) rt_29 rfl rfl rfl (by simp [Value.oneCell']) hN165.blk (Nat.le_of_ble_eq_true rfl) rfl ?_
    intro w168 hS169
    have hb170 := KeepsI.new hb167 hS169.grw (by omega)
    refine wpo_nil ?_
    refine wpf_seq ?_
    refine wpf_seq_region ?_
    refine wpo_fieldAddr (o' := 4) fo_29_4 rfl rfl rfl ?_
    have k171 := ((k166.grown0 hN165.grw).grown hS169.grw (some_ne (by omega)))
    refine wpo_load1 (v := .bool r.wk) ot_4 rfl (k171.cell rfl) rfl ?_
    refine wpo_nil ?_
    refine wpf_cond rfl (fun h172 => ?_) (fun h172 => ?_)
    ·
     refine wpf_region ?_
     refine wpo_loadn (vs := [.int .i64 ((rAt ((mAt ms ((r.th - 1).toNat)).t.slots) ((q.n % 4).toNat)).th), .int .i64 ((rAt ((mAt ms ((r.th - 1).toNat)).t.slots) ((q.n % 4).toNat)).ve), .bool ((rAt ((mAt ms ((r.th - 1).toNat)).t.slots) ((q.n % 4).toNat)).rd), .bool ((rAt ((mAt ms ((r.th - 1).toNat)).t.slots) ((q.n % 4).toNat)).wr), .bool ((rAt ((mAt ms ((r.th - 1).toNat)).t.slots) ((q.n % 4).toNat)).wk)]) rt_29 rfl rfl (hS169.blk.rangeL 0 5 rfl) rfl ?_
     refine wpo_call (vs := [.agg #[.int .i64 ((rAt ((mAt ms ((r.th - 1).toNat)).t.slots) ((q.n % 4).toNat)).th), .int .i64 ((rAt ((mAt ms ((r.th - 1).toNat)).t.slots) ((q.n % 4).toNat)).ve), .bool ((rAt ((mAt ms ((r.th - 1).toNat)).t.slots) ((q.n % 4).toNat)).rd), .bool ((rAt ((mAt ms ((r.th - 1).toNat)).t.slots) ((q.n % 4).toNat)).wr), .bool ((rAt ((mAt ms ((r.th - 1).toNat)).t.slots) ((q.n % 4).toNat)).wk)], .bool true, .bool false, .bool false]) gf_100 (args_cons rfl (args_cons rfl (args_cons rfl (args_cons rfl args_nil)))) rfl (l2Less_c (rAt ((mAt ms ((r.th - 1).toNat)).t.slots) ((q.n % 4).toNat)) true false false _) ?_
     rintro _ w173 ⟨rfl, hg174⟩
     have hb175 := KeepsI.low hb170 hg174
     have k176 := (hS169.blk.grown0 hg174)
     refine wpo_storen (vs := [.int .i64 ((l2Less (rAt ((mAt ms ((r.th - 1).toNat)).t.slots) ((q.n % 4).toNat)) true false false).th), .int .i64 ((l2Less (rAt ((mAt ms ((r.th - 1).toNat)).t.slots) ((q.n % 4).toNat)) true false false).ve), .bool ((l2Less (rAt ((mAt ms ((r.th - 1).toNat)).t.slots) ((q.n % 4).toNat)) true false false).rd), .bool ((l2Less (rAt ((mAt ms ((r.th - 1).toNat)).t.slots) ((q.n % 4).toNat)) true false false).wr), .bool ((l2Less (rAt ((mAt ms ((r.th - 1).toNat)).t.slots) ((q.n % 4).toNat)) true false false).wk)]) (cs' := #[.int .i64 ((l2Less (rAt ((mAt ms ((r.th - 1).toNat)).t.slots) ((q.n % 4).toNat)) true false false).th), .int .i64 ((l2Less (rAt ((mAt ms ((r.th - 1).toNat)).t.slots) ((q.n % 4).toNat)) true false false).ve), .bool ((l2Less (rAt ((mAt ms ((r.th - 1).toNat)).t.slots) ((q.n % 4).toNat)) true false false).rd), .bool ((l2Less (rAt ((mAt ms ((r.th - 1).toNat)).t.slots) ((q.n % 4).toNat)) true false false).wr), .bool ((l2Less (rAt ((mAt ms ((r.th - 1).toNat)).t.slots) ((q.n % 4).toNat)) true false false).wk)]) rt_29 rfl rfl rfl (by simp [Value.oneCell']) k176 (Nat.le_of_ble_eq_true rfl) rfl ?_
     intro w177 hS178
     have hb179 := KeepsI.new hb175 hS178.grw (by omega)
     refine wpo_nil ?_
     refine thn_n ?_
     refine wpf_seq_region ?_
     refine wpo_fieldAddr (o' := 5) fo_45_4 rfl rfl rfl ?_
     have k180 := ((((hS127.blk.grown0 hN165.grw).grown hS169.grw (some_ne (by omega))).grown0 hg174).grown hS178.grw (some_ne (by omega)))
     refine wpo_load1 (v := .slice ((mAt ms ((q.run - 1).toNat)).sa) ((mAt ms ((q.run - 1).toNat)).t.slots.length) ((mAt ms ((q.run - 1).toNat)).sc)) ot_27 rfl (k180.cell rfl) rfl ?_
     refine wpo_fieldAddr (o' := 3) fo_76_3 rfl rfl rfl ?_
     have k181 := ((((k129.grown0 hN165.grw).grown hS169.grw (some_ne (by omega))).grown0 hg174).grown hS178.grw (some_ne (by omega)))
     refine wpo_load1 (v := .int .i64 q.b) ot_3 rfl (k181.cell rfl) rfl ?_
     refine wpo_loadn (vs := [.int .i64 ((l2Less (rAt ((mAt ms ((r.th - 1).toNat)).t.slots) ((q.n % 4).toNat)) true false false).th), .int .i64 ((l2Less (rAt ((mAt ms ((r.th - 1).toNat)).t.slots) ((q.n % 4).toNat)) true false false).ve), .bool ((l2Less (rAt ((mAt ms ((r.th - 1).toNat)).t.slots) ((q.n % 4).toNat)) true false false).rd), .bool ((l2Less (rAt ((mAt ms ((r.th - 1).toNat)).t.slots) ((q.n % 4).toNat)) true false false).wr), .bool ((l2Less (rAt ((mAt ms ((r.th - 1).toNat)).t.slots) ((q.n % 4).toNat)) true false false).wk)]) rt_29 rfl rfl (hS178.blk.rangeL 0 5 rfl) rfl ?_
     have hRO182 := (RowsO.ge (RowsO.low (RowsO.ge (RowsO.low hRO155 hN165.grw) hS169.grw hH (by omega)) hg174) hS178.grw hH (by omega))
     obtain ⟨S183, hSa184, hSl185, hSO186⟩ := RowsO.slot hRO182 (show (q.run - 1).toNat < ms.length by omega) (by omega)
     have hSh187 := hH _ (List.mem_of_getElem? (mAt_get (show (q.run - 1).toNat < ms.length by omega))) _ (Or.inl hSa184)
     have k189 := ((((k162.grown0 hN165.grw).grown hS169.grw (some_ne (by omega))).grown0 hg174).grown hS178.grw (some_ne (by omega)))
     have hSn188 := own_ne k189 hSO186 (by decide)
     refine wpo_indexE es_27 rfl rfl hSa184 (Nat.zero_add _) (by omega) (by omega) rfl ?_
     refine wpo_storenO (g := Rt.cells) (z' := (l2Less (rAt ((mAt ms ((r.th - 1).toNat)).t.slots) ((q.n % 4).toNat)) true false false)) rt_29 rfl rfl (onec_rt _) wide_rt hSO186 (by omega) rfl ?_
     intro w190 hO191 hg192
     have hb193 := KeepsI.own hb179 hg192 hSO186 (by decide) (by omega) (by omega)
     have hRO194 := RowsO.put hRO182 (show (q.run - 1).toNat < ms.length by omega) hSa184 hSl185 hSO186 rfl hO191 hg192 (by decide)
     have k196 := (k189.grown hg192 (some_ne (by omega)))
     have k195 := own_putT (i := (q.run - 1).toNat) (j := (q.b).toNat) (x := (l2Less (rAt ((mAt ms ((r.th - 1).toNat)).t.slots) ((q.n % 4).toNat)) true false false)) k196 (by omega)
     refine wpo_nil ?_
     refine wpf_seq_region ?_
     refine wpo_assign (v := .int .i64 0) rfl rfl ?_
     refine wpo_nil ?_
     refine wpf_ret ?_
     refine blk_r ?_
     refine thn_r ?_
     have hf : far (tabT ms) q r = (tabT (putT ms ((q.run - 1).toNat) ((q.b).toNat) (l2Less (rAt ((mAt ms ((r.th - 1).toNat)).t.slots) ((q.n % 4).toNat)) true false false)), 0) := far_4 h151 (by unfold fetched; simp [h172])
     exact ⟨.int .i64 0, res1 rfl rfl, putT ms ((q.run - 1).toNat) ((q.b).toNat) (l2Less (rAt ((mAt ms ((r.th - 1).toNat)).t.slots) ((q.n % 4).toNat)) true false false), by rw [hf], by first | rfl | exact putT_len | (simp only [List.length_set, putT_len]), k195, hRO194, by rw [hf], hb193⟩
    ·
     refine wpf_skip ?_
     refine thn_n ?_
     refine wpf_seq_region ?_
     refine wpo_fieldAddr (o' := 5) fo_45_4 rfl rfl rfl ?_
     have k197 := ((hS127.blk.grown0 hN165.grw).grown hS169.grw (some_ne (by omega)))
     refine wpo_load1 (v := .slice ((mAt ms ((q.run - 1).toNat)).sa) ((mAt ms ((q.run - 1).toNat)).t.slots.length) ((mAt ms ((q.run - 1).toNat)).sc)) ot_27 rfl (k197.cell rfl) rfl ?_
     refine wpo_fieldAddr (o' := 3) fo_76_3 rfl rfl rfl ?_
     have k198 := ((k129.grown0 hN165.grw).grown hS169.grw (some_ne (by omega)))
     refine wpo_load1 (v := .int .i64 q.b) ot_3 rfl (k198.cell rfl) rfl ?_
     refine wpo_loadn (vs := [.int .i64 ((rAt ((mAt ms ((r.th - 1).toNat)).t.slots) ((q.n % 4).toNat)).th), .int .i64 ((rAt ((mAt ms ((r.th - 1).toNat)).t.slots) ((q.n % 4).toNat)).ve), .bool ((rAt ((mAt ms ((r.th - 1).toNat)).t.slots) ((q.n % 4).toNat)).rd), .bool ((rAt ((mAt ms ((r.th - 1).toNat)).t.slots) ((q.n % 4).toNat)).wr), .bool ((rAt ((mAt ms ((r.th - 1).toNat)).t.slots) ((q.n % 4).toNat)).wk)]) rt_29 rfl rfl (hS169.blk.rangeL 0 5 rfl) rfl ?_
     have hRO199 := (RowsO.ge (RowsO.low hRO155 hN165.grw) hS169.grw hH (by omega))
     obtain ⟨S200, hSa201, hSl202, hSO203⟩ := RowsO.slot hRO199 (show (q.run - 1).toNat < ms.length by omega) (by omega)
     have hSh204 := hH _ (List.mem_of_getElem? (mAt_get (show (q.run - 1).toNat < ms.length by omega))) _ (Or.inl hSa201)
     have k206 := ((k162.grown0 hN165.grw).grown hS169.grw (some_ne (by omega)))
     have hSn205 := own_ne k206 hSO203 (by decide)
     refine wpo_indexE es_27 rfl rfl hSa201 (Nat.zero_add _) (by omega) (by omega) rfl ?_
     refine wpo_storenO (g := Rt.cells) (z' := (rAt ((mAt ms ((r.th - 1).toNat)).t.slots) ((q.n % 4).toNat))) rt_29 rfl rfl (onec_rt _) wide_rt hSO203 (by omega) rfl ?_
     intro w207 hO208 hg209
     have hb210 := KeepsI.own hb170 hg209 hSO203 (by decide) (by omega) (by omega)
     have hRO211 := RowsO.put hRO199 (show (q.run - 1).toNat < ms.length by omega) hSa201 hSl202 hSO203 rfl hO208 hg209 (by decide)
     have k213 := (k206.grown hg209 (some_ne (by omega)))
     have k212 := own_putT (i := (q.run - 1).toNat) (j := (q.b).toNat) (x := (rAt ((mAt ms ((r.th - 1).toNat)).t.slots) ((q.n % 4).toNat))) k213 (by omega)
     refine wpo_nil ?_
     refine wpf_seq_region ?_
     refine wpo_assign (v := .int .i64 0) rfl rfl ?_
     refine wpo_nil ?_
     refine wpf_ret ?_
     refine blk_r ?_
     refine thn_r ?_
     have hf : far (tabT ms) q r = (tabT (putT ms ((q.run - 1).toNat) ((q.b).toNat) (rAt ((mAt ms ((r.th - 1).toNat)).t.slots) ((q.n % 4).toNat))), 0) := far_4 h151 (by unfold fetched; simp [h172])
     exact ⟨.int .i64 0, res1 rfl rfl, putT ms ((q.run - 1).toNat) ((q.b).toNat) (rAt ((mAt ms ((r.th - 1).toNat)).t.slots) ((q.n % 4).toNat)), by rw [hf], by first | rfl | exact putT_len | (simp only [List.length_set, putT_len]), k212, hRO211, by rw [hf], hb210⟩
   ·
    have h214 := of_decide_eq_false h151
    refine wpf_seq_region ?_
    refine wpo_eql (q := decide (q.kind = 5)) rfl rfl rfl rfl ?_
    refine wpo_assign (v := .bool (decide (q.kind = 5))) rfl rfl ?_
    refine wpo_nil ?_
    refine wpf_cond rfl (fun h215 => ?_) (fun h215 => ?_)
    ·
     have hq216 := of_decide_eq_true h215
     have hs4 : (mAt ms (r.th - 1).toNat).t.slots.length = 4 := th_four hrow (Or.inl (by omega))
     have h217 := of_decide_eq_true h215
     have hRO263 := (RowsO.typB (RowsO.low (RowsO.typB (RowsO.low (RowsO.low (RowsO.low hR hN103.grw) hN107.grw) hN113.grw) hS117.grw hN113.blk (by decide) (by decide)) hN123.grw) hS127.grw hN123.blk (by decide) (by decide))
     obtain ⟨S264, hSa265, hSl266, hSO267⟩ := RowsO.slot hRO263 (show (q.run - 1).toNat < ms.length by omega) (by omega)
     have hSh268 := hH _ (List.mem_of_getElem? (mAt_get (show (q.run - 1).toNat < ms.length by omega))) _ (Or.inl hSa265)
     have k270 := ((k120.grown0 hN123.grw).grown hS127.grw (some_ne (by omega)))
     have hSn269 := own_ne k270 hSO267 (by decide)
     obtain ⟨S271, hSa272, hSl273, hSO274⟩ := RowsO.slot hRO263 (show (r.th - 1).toNat < ms.length by omega) (by omega)
     have hSh275 := hH _ (List.mem_of_getElem? (mAt_get (show (r.th - 1).toNat < ms.length by omega))) _ (Or.inl hSa272)
     have hSn276 := own_ne k270 hSO274 (by decide)
     refine wpf_draw (m := 11) (vals := [(57, .pointer (some ⟨B111, 5, none⟩)), (58, .slice ((mAt ms ((r.th - 1).toNat)).sa) ((mAt ms ((r.th - 1).toNat)).t.slots.length) ((mAt ms ((r.th - 1).toNat)).sc)), (59, .pointer (some ⟨B101, 4, none⟩)), (60, .int .i64 q.n), (61, .int .i64 (q.n % 4)), (62, .pointer (some ⟨B121, 5, none⟩)), (63, .slice ((mAt ms ((q.run - 1).toNat)).sa) ((mAt ms ((q.run - 1).toNat)).t.slots.length) ((mAt ms ((q.run - 1).toNat)).sc)), (64, .pointer (some ⟨B101, 3, none⟩)), (65, .int .i64 q.b), (66, .pointer (some ⟨S264, (q.b).toNat * 5, none⟩)), (67, .agg #[.int .i64 ((rAt ((mAt ms ((q.run - 1).toNat)).t.slots) ((q.b).toNat)).th), .int .i64 ((rAt ((mAt ms ((q.run - 1).toNat)).t.slots) ((q.b).toNat)).ve), .bool ((rAt ((mAt ms ((q.run - 1).toNat)).t.slots) ((q.b).toNat)).rd), .bool ((rAt ((mAt ms ((q.run - 1).toNat)).t.slots) ((q.b).toNat)).wr), .bool ((rAt ((mAt ms ((q.run - 1).toNat)).t.slots) ((q.b).toNat)).wk)])]) (fun w' => w126.grownBy w' none) mixed_ (by kernel_rfl) (grown_drew _) ?_ ?_
     ·
      refine yll_cons rfl (fun w278 hi279 => ?_) ?_
      ·
       have hb280 := KeepsI.low hb128 hi279
       refine wpo_fieldAddr (o' := 5) fo_45_4 rfl rfl rfl ?_
       exact wpo_nil ⟨rfl, hi279⟩
      refine yll_cons rfl (fun w281 hi282 => ?_) ?_
      ·
       have hb283 := KeepsI.low hb128 hi282
       have k284 := (((hS117.blk.grown0 hN123.grw).grown hS127.grw (some_ne (by omega))).grown0 hi282)
       refine wpo_load1 (v := .slice ((mAt ms ((r.th - 1).toNat)).sa) ((mAt ms ((r.th - 1).toNat)).t.slots.length) ((mAt ms ((r.th - 1).toNat)).sc)) ot_27 rfl (k284.cell rfl) rfl ?_
       exact wpo_nil ⟨rfl, hi282⟩
      refine yll_cons rfl (fun w285 hi286 => ?_) ?_
      ·
       have hb287 := KeepsI.low hb128 hi286
       refine wpo_fieldAddr (o' := 4) fo_76_4 rfl rfl rfl ?_
       exact wpo_nil ⟨rfl, hi286⟩
      refine yll_cons rfl (fun w288 hi289 => ?_) ?_
      ·
       have hb290 := KeepsI.low hb128 hi289
       have k291 := (k129.grown0 hi289)
       refine wpo_load1 (v := .int .i64 q.n) ot_3 rfl (k291.cell rfl) rfl ?_
       exact wpo_nil ⟨rfl, hi289⟩
      refine yll_cons rfl (fun w292 hi293 => ?_) ?_
      ·
       have hb294 := KeepsI.low hb128 hi293
       refine wpo_rem (c := q.n % 4) rfl rfl (by omega) (by omega) (by omega) rfl rfl ?_
       exact wpo_nil ⟨rfl, hi293⟩
      refine yll_cons rfl (fun w295 hi296 => ?_) ?_
      ·
       have hb297 := KeepsI.low hb128 hi296
       refine wpo_fieldAddr (o' := 5) fo_45_4 rfl rfl rfl ?_
       exact wpo_nil ⟨rfl, hi296⟩
      refine yll_cons rfl (fun w298 hi299 => ?_) ?_
      ·
       have hb300 := KeepsI.low hb128 hi299
       have k301 := (hS127.blk.grown0 hi299)
       refine wpo_load1 (v := .slice ((mAt ms ((q.run - 1).toNat)).sa) ((mAt ms ((q.run - 1).toNat)).t.slots.length) ((mAt ms ((q.run - 1).toNat)).sc)) ot_27 rfl (k301.cell rfl) rfl ?_
       exact wpo_nil ⟨rfl, hi299⟩
      refine yll_cons rfl (fun w302 hi303 => ?_) ?_
      ·
       have hb304 := KeepsI.low hb128 hi303
       refine wpo_fieldAddr (o' := 3) fo_76_3 rfl rfl rfl ?_
       exact wpo_nil ⟨rfl, hi303⟩
      refine yll_cons rfl (fun w305 hi306 => ?_) ?_
      ·
       have hb307 := KeepsI.low hb128 hi306
       have k308 := (k129.grown0 hi306)
       refine wpo_load1 (v := .int .i64 q.b) ot_3 rfl (k308.cell rfl) rfl ?_
       exact wpo_nil ⟨rfl, hi306⟩
      refine yll_cons rfl (fun w309 hi310 => ?_) ?_
      ·
       have hb311 := KeepsI.low hb128 hi310
       refine wpo_indexE es_27 rfl rfl hSa265 (Nat.zero_add _) (by omega) (by omega) rfl ?_
       exact wpo_nil ⟨rfl, hi310⟩
      refine yll_cons rfl (fun w312 hi313 => ?_) ?_
      ·
       have hb314 := KeepsI.low hb128 hi313
       have k315 := (hSO267.grown0 hi313)
       refine wpo_loadn (vs := [.int .i64 ((rAt ((mAt ms ((q.run - 1).toNat)).t.slots) ((q.b).toNat)).th), .int .i64 ((rAt ((mAt ms ((q.run - 1).toNat)).t.slots) ((q.b).toNat)).ve), .bool ((rAt ((mAt ms ((q.run - 1).toNat)).t.slots) ((q.b).toNat)).rd), .bool ((rAt ((mAt ms ((q.run - 1).toNat)).t.slots) ((q.b).toNat)).wr), .bool ((rAt ((mAt ms ((q.run - 1).toNat)).t.slots) ((q.b).toNat)).wk)]) rt_29 rfl rfl (range_sub (Own.range wide_rt k315 (rAt_get (show (q.b).toNat < ((mAt ms ((q.run - 1).toNat)).t.slots).length by omega))) 0 5 rfl) rfl ?_
       exact wpo_nil ⟨rfl, hi313⟩
      exact yll_nil
     ·
      intro w316 hi317
      have hb318 := KeepsI.low hb128 hi317
      refine wpo_indexE es_27 rfl rfl hSa272 (Nat.zero_add _) (by omega) (by omega) rfl ?_
      have k319 := (hSO274.grown0 hi317)
      have hRO323 := (RowsO.low hRO263 hi317)
      have k324 := (k270.grown0 hi317)
      refine wpo_storenO (g := Rt.cells) (z' := (rAt ((mAt ms ((q.run - 1).toNat)).t.slots) ((q.b).toNat))) rt_29 rfl rfl (onec_rt _) wide_rt k319 (by omega) rfl ?_
      intro w320 hO321 hg322
      have hb325 := KeepsI.own hb318 hg322 k319 (by decide) (by omega) (by omega)
      have hRO326 := RowsO.put hRO323 (show (r.th - 1).toNat < ms.length by omega) hSa272 hSl273 k319 rfl hO321 hg322 (by decide)
      have k328 := (k324.grown hg322 (some_ne (by omega)))
      have k327 := own_putT (i := (r.th - 1).toNat) (j := (q.n % 4).toNat) (x := (rAt ((mAt ms ((q.run - 1).toNat)).t.slots) ((q.b).toNat))) k328 (by omega)
      refine wpo_nil ?_
      refine blk_n ?_
      refine thn_n ?_
      refine wpf_seq_region ?_
      refine wpo_move (v := .slice (some ⟨B, 0, none⟩) ms.length cap) rfl rfl ?_
      refine wpo_fieldAddr (o' := 0) fo_29_0 rfl rfl rfl ?_
      have k329 := ((((k124.grown0 hN123.grw).grown hS127.grw (some_ne (by omega))).grown0 hi317).grown hg322 (some_ne (by omega)))
      refine wpo_load1 (v := .int .i64 r.th) ot_3 rfl (k329.cell rfl) rfl ?_
      refine wpo_sub (c := r.th - 1) rfl rfl (by omega) (by omega) (by omega) rfl ?_
      have k330 := ((((hS117.blk.grown0 hN123.grw).grown hS127.grw (some_ne (by omega))).grown0 hi317).grown hg322 (some_ne (by omega)))
      refine wpo_loadn (vs := [.int .i64 ((mAt ms ((r.th - 1).toNat)).t.kind), .int .i64 ((mAt ms ((r.th - 1).toNat)).t.lab.s), .int .i64 ((mAt ms ((r.th - 1).toNat)).t.lab.v), .int .i64 ((mAt ms ((r.th - 1).toNat)).t.ve), .int .i64 ((mAt ms ((r.th - 1).toNat)).t.num), .slice ((mAt ms ((r.th - 1).toNat)).sa) ((mAt ms ((r.th - 1).toNat)).t.slots.length) ((mAt ms ((r.th - 1).toNat)).sc), .slice ((mAt ms ((r.th - 1).toNat)).qa) ((mAt ms ((r.th - 1).toNat)).t.queue.length) ((mAt ms ((r.th - 1).toNat)).qc), .int .i64 ((mAt ms ((r.th - 1).toNat)).t.to)]) rt_45 rfl rfl (k330.rangeL 0 8 rfl) rfl ?_
      refine wpo_indexAddr (o' := (r.th - 1).toNat * 8) es_54 rfl rfl (by omega) (by omega) (by omega) rfl ?_
      refine wpo_storenO (g := MTh.cells) (z' := putS (mAt ms ((r.th - 1).toNat)) ((q.n % 4).toNat) (rAt ((mAt ms ((q.run - 1).toNat)).t.slots) ((q.b).toNat))) rt_45 rfl (congrArg (fun l : List Value => Value.agg l.toArray) cells_putS.symm) (onec_mth _) wide_mth k327 (by (simp only [List.length_set, putT_len]; omega)) rfl ?_
      intro w331 hO332 hg333
      have hb334 := KeepsI.own hb325 hg333 k327 (by decide) (by omega) (by omega)
      have hRO335 := (RowsO.own hRO326 hg333 k327 (by decide) (by decide))
      have k336 := hO332
      rw [putT_again] at k336
      refine wpo_nil ?_
      refine wpf_seq_region ?_
      refine wpo_move (v := .int .i64 0) rfl rfl ?_
      refine wpo_assign (v := .int .i64 0) rfl rfl ?_
      refine wpo_nil ?_
      refine wpf_ret ?_
      have hf : far (tabT ms) q r = (tabT (putT ms ((r.th - 1).toNat) ((q.n % 4).toNat) (rAt ((mAt ms ((q.run - 1).toNat)).t.slots) ((q.b).toNat))), 0) := far_5 h215 rfl
      exact ⟨.int .i64 0, res1 rfl rfl, putT ms ((r.th - 1).toNat) ((q.n % 4).toNat) (rAt ((mAt ms ((q.run - 1).toNat)).t.slots) ((q.b).toNat)), by rw [hf], by first | rfl | exact putT_len | (simp only [List.length_set, putT_len]), k336, hRO335, by rw [hf], hb334⟩
    ·
     have h337 := of_decide_eq_false h215
     refine wpf_seq_region ?_
     refine wpo_eql (q := decide (q.kind = 6)) rfl rfl rfl rfl ?_
     refine wpo_assign (v := .bool (decide (q.kind = 6))) rfl rfl ?_
     refine wpo_nil ?_
     refine wpf_cond rfl (fun h338 => ?_) (fun h338 => ?_)
     ·
      have h339 := of_decide_eq_true h338
      refine wpf_seq ?_
      refine wpf_seq_region ?_
      refine wpo_fieldAddr (o' := 6) fo_45_5 rfl rfl rfl ?_
      have k340 := ((hS117.blk.grown0 hN123.grw).grown hS127.grw (some_ne (by omega)))
      refine wpo_load1 (v := .slice ((mAt ms ((r.th - 1).toNat)).qa) ((mAt ms ((r.th - 1).toNat)).t.queue.length) ((mAt ms ((r.th - 1).toNat)).qc)) ot_43 rfl (k340.cell rfl) rfl ?_
      refine wpo_len (by kernel_rfl) rfl rfl ?_
      refine wpo_geq (q := decide (3 ≤ ((mAt ms ((r.th - 1).toNat)).t.queue.length : Int))) rfl rfl rfl rfl ?_
      refine wpo_nil ?_
      refine wpf_cond rfl (fun h341 => ?_) (fun h341 => ?_)
      ·
       have h342 := of_decide_eq_true h341
       refine wpf_seq_region ?_
       refine wpo_assign (v := .int .i64 (-4)) rfl rfl ?_
       refine wpo_nil ?_
       refine wpf_ret ?_
       refine thn_r ?_
       refine blk_r ?_
       refine thn_r ?_
       have hRO343 := (RowsO.typB (RowsO.low (RowsO.typB (RowsO.low (RowsO.low (RowsO.low hR hN103.grw) hN107.grw) hN113.grw) hS117.grw hN113.blk (by decide) (by decide)) hN123.grw) hS127.grw hN123.blk (by decide) (by decide))
       have k344 := ((k120.grown0 hN123.grw).grown hS127.grw (some_ne (by omega)))
       have hf : far (tabT ms) q r = (tabT (ms), (-4)) := far_6n h338 (by omega)
       exact ⟨.int .i64 (-4), res1 rfl rfl, ms, by rw [hf], by first | rfl | exact putT_len | (simp only [List.length_set, putT_len]), k344, hRO343, by rw [hf], hb128⟩
      ·
       have h345 := of_decide_eq_false h341
       refine wpf_skip ?_
       refine thn_n ?_
       refine wpf_drawI (m := 7) [[], [], [1], [0, 1, 2], [], [4], [4, 5], [0, 1, 2, 3, 4, 5, 6], [0, 1, 2, 3, 4, 5, 6, 7], [0, 1, 2, 3, 4, 5, 6, 7, 8]] (fun S F w' => ∃ (B480 : Nat) (a492 : Option Addr) (cap493 : Nat) (B501 : Nat), w126.grownBy w' none ∧ F 0 = .slice (some ⟨B, 0, none⟩) ms.length cap ∧ F 4 = .pointer (some ⟨B101, 0, none⟩) ∧ F 5 = .pointer (some ⟨B105, 0, none⟩) ∧ F 6 = .int .i64 0 ∧ F 7 = .pointer (some ⟨B111, 0, none⟩) ∧ F 9 = .int .i64 0 ∧ (S 0 = true → F 75 = .slice (some ⟨B480, 0, none⟩) 0 0 ∧ w.heap.size ≤ B480 ∧ (S 3 = false → Blk w' B480 3 (([] : List Int).flatMap icell).toArray) ∧ B < B480 ∧ B101 < B480 ∧ B105 < B480 ∧ B111 < B480 ∧ B121 < B480 ∧ w126.heap.size ≤ B480 ∧ B480 < w'.heap.size) ∧ (S 1 = true → F 76 = .pointer (some ⟨B111, 6, none⟩)) ∧ (S 2 = true → F 77 = .slice ((mAt ms ((r.th - 1).toNat)).qa) ((mAt ms ((r.th - 1).toNat)).t.queue.length) ((mAt ms ((r.th - 1).toNat)).qc)) ∧ (S 3 = true → F 78 = .slice a492 (((mAt ms ((r.th - 1).toNat)).t.queue).length) cap493 ∧ OwnN w.heap.size w' a492 3 1 cap493 ((mAt ms ((r.th - 1).toNat)).t.queue).length (((mAt ms ((r.th - 1).toNat)).t.queue).flatMap icell)) ∧ (S 4 = true → F 79 = .pointer (some ⟨B101, 4, none⟩)) ∧ (S 5 = true → F 80 = .int .i64 q.n) ∧ (S 6 = true → F 81 = .slice (some ⟨B501, 0, none⟩) 1 1 ∧ w.heap.size ≤ B501 ∧ Blk w' B501 3 (([q.n] : List Int).flatMap icell).toArray ∧ B < B501 ∧ B101 < B501 ∧ B105 < B501 ∧ B111 < B501 ∧ B121 < B501 ∧ w126.heap.size ≤ B501) ∧ (S 0 = true → S 6 = true → B480 ≠ B501)) mixed_ (by kernel_rfl) ⟨0, none, 0, 0, grown_drew _, rfl, rfl, rfl, rfl, rfl, rfl, fun h => not_begun h, fun h => not_begun h, fun h => not_begun h, fun h => not_begun h, fun h => not_begun h, fun h => not_begun h, fun h => not_begun h, fun h => not_begun h⟩ ?_ ?_
       ·
        refine preL_cons (fun S F w509 hS hbef hcl hI => ?_) ?_
        ·
         obtain ⟨B480, a492, cap493, B501, hi510, e511, e512, e513, e514, e515, e516, c_0, c_1, c_2, c_3, c_4, c_5, c_6, pr_B480_B501⟩ := hI
         have hb517 := KeepsI.low hb128 hi510
         refine wpo_buildSlice (ps := []) (e := 3) (cs := (([] : List Int).flatMap icell).toArray) parts_nil (fun _ => by kernel_rfl) rfl ?_
         intro B518 w519 hN520
         have hlB518 := hN_geI hN520 hb517
         have k521 := (((k120.grown0 hN123.grw).grown hS127.grw (some_ne (by omega))).grown0 hi510)
         have lt_B_B518 := hN_gtl hN520 (k521).lt
         have k522 := (k129.grown0 hi510)
         have lt_B101_B518 := hN_gtl hN520 (k522).lt
         have k523 := (((k124.grown0 hN123.grw).grown hS127.grw (some_ne (by omega))).grown0 hi510)
         have lt_B105_B518 := hN_gtl hN520 (k523).lt
         have k524 := (k340.grown0 hi510)
         have lt_B111_B518 := hN_gtl hN520 (k524).lt
         have k525 := (hS127.blk.grown0 hi510)
         have lt_B121_B518 := hN_gtl hN520 (k525).lt
         have hb526 := KeepsI.low hb517 hN520.grw
         exact wpo_nil ⟨B518, a492, cap493, B501, (low0 hi510 hN520.grw), e511, e512, e513, e514, e515, e516, fun _ => ⟨rfl, hlB518, fun _ => hN520.blk, lt_B_B518, lt_B101_B518, lt_B105_B518, lt_B111_B518, lt_B121_B518, (Nat.le_trans hi510.size (Nat.le_of_eq hN520.eq.symm)), (hN520.blk).lt⟩, c_1, c_2, fun h => undone 3 hS hcl rfl h, c_4, c_5, fun h => let ⟨y527, y528, y529, y530, y531, y532, y533, y534, y535⟩ := c_6 h; ⟨y527, y528, (y529).grown0 hN520.grw, y530, y531, y532, y533, y534, y535⟩, fun _ h => let ⟨y536, y537, y538, y539, y540, y541, y542, y543, y544⟩ := c_6 h; Nat.ne_of_gt (Nat.lt_of_lt_of_le (Blk.lt y538) (Nat.le_of_eq hN520.eq.symm))⟩
        refine preL_cons (fun S F w545 hS hbef hcl hI => ?_) ?_
        ·
         obtain ⟨B480, a492, cap493, B501, hi546, e547, e548, e549, e550, e551, e552, c_0, c_1, c_2, c_3, c_4, c_5, c_6, pr_B480_B501⟩ := hI
         have hb553 := KeepsI.low hb128 hi546
         refine wpo_fieldAddr (o' := 6) fo_45_5 e551 rfl rfl ?_
         exact wpo_nil ⟨B480, a492, cap493, B501, hi546, e547, e548, e549, e550, e551, e552, c_0, fun _ => rfl, fun h => undone 2 hS hcl rfl h, fun h => undone 3 hS hcl rfl h, c_4, c_5, c_6, pr_B480_B501⟩
        refine preL_cons (fun S F w554 hS hbef hcl hI => ?_) ?_
        ·
         obtain ⟨B480, a492, cap493, B501, hi555, e556, e557, e558, e559, e560, e561, c_0, c_1, c_2, c_3, c_4, c_5, c_6, pr_B480_B501⟩ := hI
         have hb562 := KeepsI.low hb128 hi555
         obtain e563 := c_1 (ready_of 1 hbef rfl)
         have k564 := (k340.grown0 hi555)
         refine wpo_load1 (v := .slice ((mAt ms ((r.th - 1).toNat)).qa) ((mAt ms ((r.th - 1).toNat)).t.queue.length) ((mAt ms ((r.th - 1).toNat)).qc)) ot_43 e563 (k564.cell rfl) rfl ?_
         exact wpo_nil ⟨B480, a492, cap493, B501, hi555, e556, e557, e558, e559, e560, e561, c_0, c_1, fun _ => rfl, fun h => undone 3 hS hcl rfl h, c_4, c_5, c_6, pr_B480_B501⟩
        refine preL_cons (fun S F w565 hS hbef hcl hI => ?_) ?_
        ·
         obtain ⟨B480, a492, cap493, B501, hi566, e567, e568, e569, e570, e571, e572, c_0, c_1, c_2, c_3, c_4, c_5, c_6, pr_B480_B501⟩ := hI
         have hb573 := KeepsI.low hb128 hi566
         obtain ⟨e574, hlB480, kb_B480, lt_B_B480, lt_B101_B480, lt_B105_B480, lt_B111_B480, lt_B121_B480, hk_B480, hz_B480⟩ := c_0 (ready_of 0 hbef rfl)
         obtain e575 := c_1 (ready_of 1 hbef rfl)
         obtain e576 := c_2 (ready_of 2 hbef rfl)
         have hRO577 := (RowsO.low (RowsO.typB (RowsO.low (RowsO.typB (RowsO.low (RowsO.low (RowsO.low hR hN103.grw) hN107.grw) hN113.grw) hS117.grw hN113.blk (by decide) (by decide)) hN123.grw) hS127.grw hN123.blk (by decide) (by decide)) hi566)
         have k578 := (((k120.grown0 hN123.grw).grown hS127.grw (some_ne (by omega))).grown0 hi566)
         have k579 := (k129.grown0 hi566)
         have k580 := (((k124.grown0 hN123.grw).grown hS127.grw (some_ne (by omega))).grown0 hi566)
         have k581 := (k340.grown0 hi566)
         have k582 := (hS127.blk.grown0 hi566)
         refine wpo_appendN (g := icell) (ys := ([])) (zs := ((mAt ms ((r.th - 1).toNat)).t.queue)) (lo := w.heap.size) mk_43 rfl wide_int (by omega) onec_int e574 e576 (OwnN.of (Own.rows wide_int (kb_B480 hS) (by simp)) hlB480) (RowO.th (RowsO.at hRO577 (show (r.th - 1).toNat < ms.length by omega))).2.1 (RowO.th (RowsO.at hRO577 (show (r.th - 1).toNat < ms.length by omega))).2.2.2 (by first | omega | exact Nat.le_of_ble_eq_true rfl | (simp only [List.length_nil, List.length_cons, List.length_append, List.length_replicate]; omega) | (simp only [List.length_drop, List.length_nil]; omega)) (by omega) hb573.size rfl ?_
         intro a583 cap584 w585 hO586 hg587 hor588
         have hg589 : World.grownBy w565 w585 (some B480) := hg587
         have hb590 := KeepsI.new hb573 hg589 (by omega)
         exact wpo_nil ⟨B480, a583, cap584, B501, (low1 hi566 hg589 (by omega)), e567, e568, e569, e570, e571, e572, fun h => let ⟨y591, y592, y593, y594, y595, y596, y597, y598, y599, y600⟩ := c_0 h; ⟨y591, y592, fun h => not_open h, y594, y595, y596, y597, y598, y599, (Nat.lt_of_lt_of_le y600 hg589.size)⟩, c_1, c_2, fun _ => ⟨rfl, hO586⟩, c_4, c_5, fun h => let ⟨y601, y602, y603, y604, y605, y606, y607, y608, y609⟩ := c_6 h; ⟨y601, y602, (y603).grown hg589 (some_ne (pr_B480_B501 (ready_of 0 hbef rfl) h).symm), y604, y605, y606, y607, y608, y609⟩, pr_B480_B501⟩
        refine preL_cons (fun S F w610 hS hbef hcl hI => ?_) ?_
        ·
         obtain ⟨B480, a492, cap493, B501, hi611, e612, e613, e614, e615, e616, e617, c_0, c_1, c_2, c_3, c_4, c_5, c_6, pr_B480_B501⟩ := hI
         have hb618 := KeepsI.low hb128 hi611
         refine wpo_fieldAddr (o' := 4) fo_76_4 e613 rfl rfl ?_
         exact wpo_nil ⟨B480, a492, cap493, B501, hi611, e612, e613, e614, e615, e616, e617, c_0, c_1, c_2, c_3, fun _ => rfl, fun h => undone 5 hS hcl rfl h, fun h => undone 6 hS hcl rfl h, pr_B480_B501⟩
        refine preL_cons (fun S F w619 hS hbef hcl hI => ?_) ?_
        ·
         obtain ⟨B480, a492, cap493, B501, hi620, e621, e622, e623, e624, e625, e626, c_0, c_1, c_2, c_3, c_4, c_5, c_6, pr_B480_B501⟩ := hI
         have hb627 := KeepsI.low hb128 hi620
         obtain e628 := c_4 (ready_of 4 hbef rfl)
         have k629 := (k129.grown0 hi620)
         refine wpo_load1 (v := .int .i64 q.n) ot_3 e628 (k629.cell rfl) rfl ?_
         exact wpo_nil ⟨B480, a492, cap493, B501, hi620, e621, e622, e623, e624, e625, e626, c_0, c_1, c_2, c_3, c_4, fun _ => rfl, fun h => undone 6 hS hcl rfl h, pr_B480_B501⟩
        refine preL_cons (fun S F w630 hS hbef hcl hI => ?_) ?_
        ·
         obtain ⟨B480, a492, cap493, B501, hi631, e632, e633, e634, e635, e636, e637, c_0, c_1, c_2, c_3, c_4, c_5, c_6, pr_B480_B501⟩ := hI
         have hb638 := KeepsI.low hb128 hi631
         obtain e639 := c_4 (ready_of 4 hbef rfl)
         obtain e640 := c_5 (ready_of 5 hbef rfl)
         refine wpo_buildSlice (ps := [(0, .int .i64 q.n)]) (e := 3) (cs := (([q.n] : List Int).flatMap icell).toArray) (parts_cons e640 parts_nil) (fun _ => by kernel_rfl) rfl ?_
         intro B641 w642 hN643
         have hlB641 := hN_geI hN643 hb638
         have k644 := (((k120.grown0 hN123.grw).grown hS127.grw (some_ne (by omega))).grown0 hi631)
         have lt_B_B641 := hN_gtl hN643 (k644).lt
         have k645 := (k129.grown0 hi631)
         have lt_B101_B641 := hN_gtl hN643 (k645).lt
         have k646 := (((k124.grown0 hN123.grw).grown hS127.grw (some_ne (by omega))).grown0 hi631)
         have lt_B105_B641 := hN_gtl hN643 (k646).lt
         have k647 := (k340.grown0 hi631)
         have lt_B111_B641 := hN_gtl hN643 (k647).lt
         have k648 := (hS127.blk.grown0 hi631)
         have lt_B121_B641 := hN_gtl hN643 (k648).lt
         have hb649 := KeepsI.low hb638 hN643.grw
         exact wpo_nil ⟨B480, a492, cap493, B641, (low0 hi631 hN643.grw), e632, e633, e634, e635, e636, e637, fun h => let ⟨y650, y651, y652, y653, y654, y655, y656, y657, y658, y659⟩ := c_0 h; ⟨y650, y651, fun hn => (y652 hn).grown0 hN643.grw, y653, y654, y655, y656, y657, y658, (Nat.lt_of_lt_of_le y659 hN643.grw.size)⟩, c_1, c_2, fun h => let ⟨y660, y661⟩ := c_3 h; ⟨y660, (y661).grown0 hN643.grw⟩, c_4, c_5, fun _ => ⟨rfl, hlB641, hN643.blk, lt_B_B641, lt_B101_B641, lt_B105_B641, lt_B111_B641, lt_B121_B641, (Nat.le_trans hi631.size (Nat.le_of_eq hN643.eq.symm))⟩, fun h _ => let ⟨y662, y663, y664, y665, y666, y667, y668, y669, y670, y671⟩ := c_0 h; Nat.ne_of_lt (Nat.lt_of_lt_of_le (y671) (Nat.le_of_eq hN643.eq.symm))⟩
        exact preL_nil
       ·
        intro S F w672 hall hI
        obtain ⟨B480, a492, cap493, B501, hi673, e674, e675, e676, e677, e678, e679, c_0, c_1, c_2, c_3, c_4, c_5, c_6, pr_B480_B501⟩ := hI
        have hb680 := KeepsI.low hb128 hi673
        obtain ⟨e681, hlB480, kb_B480, lt_B_B480, lt_B101_B480, lt_B105_B480, lt_B111_B480, lt_B121_B480, hk_B480, hz_B480⟩ := c_0 (hall 0 (by decide))
        obtain e682 := c_1 (hall 1 (by decide))
        obtain e683 := c_2 (hall 2 (by decide))
        obtain ⟨e684, hO495⟩ := c_3 (hall 3 (by decide))
        obtain e685 := c_4 (hall 4 (by decide))
        obtain e686 := c_5 (hall 5 (by decide))
        obtain ⟨e687, hlB501, kb_B501, lt_B_B501, lt_B101_B501, lt_B105_B501, lt_B111_B501, lt_B121_B501, hk_B501⟩ := c_6 (hall 6 (by decide))
        have ne_B480_B501 := pr_B480_B501 (hall 0 (by decide)) (hall 6 (by decide))
        have hO688 := hO495
        refine wpo_appendN (g := icell) (ys := ((mAt ms ((r.th - 1).toNat)).t.queue)) (zs := ([q.n] : List Int)) (lo := w.heap.size) mk_43 rfl wide_int (by omega) onec_int e684 e687 hO688 (rows_sl wide_int kb_B501) (fun h => by cases h) (by first | omega | exact Nat.le_of_ble_eq_true rfl | (simp only [List.length_nil, List.length_cons, List.length_append, List.length_replicate]; omega)) (by omega) (by first | exact hb680.size | omega) rfl ?_
        have k695 := (((k120.grown0 hN123.grw).grown hS127.grw (some_ne (by omega))).grown0 hi673)
        have k696 := (k129.grown0 hi673)
        have k697 := (((k124.grown0 hN123.grw).grown hS127.grw (some_ne (by omega))).grown0 hi673)
        have k698 := (k340.grown0 hi673)
        have k699 := (hS127.blk.grown0 hi673)
        intro a689 cap690 w691 hO692 hg693 hor694
        have hb700 := KeepsI.newN hb680 hO688 hg693 (by omega)
        refine wpo_fieldAddr (o' := 6) fo_45_5 e678 rfl rfl ?_
        have k701 := (Blk.typN k698 hO688 hg693 (by decide))
        refine wpo_store1 (v := .slice a689 ((((mAt ms ((r.th - 1).toNat)).t.queue) ++ ([q.n] : List Int)).length) cap690) (cs' := #[.int .i64 ((mAt ms ((r.th - 1).toNat)).t.kind), .int .i64 ((mAt ms ((r.th - 1).toNat)).t.lab.s), .int .i64 ((mAt ms ((r.th - 1).toNat)).t.lab.v), .int .i64 ((mAt ms ((r.th - 1).toNat)).t.ve), .int .i64 ((mAt ms ((r.th - 1).toNat)).t.num), .slice ((mAt ms ((r.th - 1).toNat)).sa) ((mAt ms ((r.th - 1).toNat)).t.slots.length) ((mAt ms ((r.th - 1).toNat)).sc), .slice a689 ((((mAt ms ((r.th - 1).toNat)).t.queue) ++ ([q.n] : List Int)).length) cap690, .int .i64 ((mAt ms ((r.th - 1).toNat)).t.to)]) ot_43 rfl rfl rfl k701 (Nat.le_of_ble_eq_true rfl) rfl ?_
        intro w702 hS703
        have hb704 := KeepsI.new hb700 hS703.grw (by omega)
        refine wpo_nil ?_
        refine blk_n ?_
        refine thn_n ?_
        refine wpf_seq_region ?_
        refine wpo_move (v := .slice (some ⟨B, 0, none⟩) ms.length cap) e674 rfl ?_
        refine wpo_fieldAddr (o' := 0) fo_29_0 e676 rfl rfl ?_
        have k705 := ((Blk.typN k697 hO688 hg693 (by decide)).grown hS703.grw (some_ne (by omega)))
        refine wpo_load1 (v := .int .i64 r.th) ot_3 rfl (k705.cell rfl) rfl ?_
        refine wpo_sub (c := r.th - 1) rfl rfl (by omega) (by omega) (by omega) rfl ?_
        refine wpo_loadn (vs := [.int .i64 ((mAt ms ((r.th - 1).toNat)).t.kind), .int .i64 ((mAt ms ((r.th - 1).toNat)).t.lab.s), .int .i64 ((mAt ms ((r.th - 1).toNat)).t.lab.v), .int .i64 ((mAt ms ((r.th - 1).toNat)).t.ve), .int .i64 ((mAt ms ((r.th - 1).toNat)).t.num), .slice ((mAt ms ((r.th - 1).toNat)).sa) ((mAt ms ((r.th - 1).toNat)).t.slots.length) ((mAt ms ((r.th - 1).toNat)).sc), .slice a689 ((((mAt ms ((r.th - 1).toNat)).t.queue) ++ ([q.n] : List Int)).length) cap690, .int .i64 ((mAt ms ((r.th - 1).toNat)).t.to)]) rt_45 e678 rfl (hS703.blk.rangeL 0 8 rfl) rfl ?_
        refine wpo_indexAddr (o' := (r.th - 1).toNat * 8) es_54 rfl rfl (by omega) (by omega) (by omega) rfl ?_
        have k706 := ((Own.typN k695 hO688 hg693 (by decide)).grown hS703.grw (some_ne (by omega)))
        have hRO710 := (RowsO.typB (RowsO.newN (RowsO.low (RowsO.typB (RowsO.low (RowsO.typB (RowsO.low (RowsO.low (RowsO.low hR hN103.grw) hN107.grw) hN113.grw) hS117.grw hN113.blk (by decide) (by decide)) hN123.grw) hS127.grw hN123.blk (by decide) (by decide)) hi673) hO688 hg693 hH (by omega)) hS703.grw k701 (by decide) (by decide))
        refine wpo_storenO (g := MTh.cells) (z' := (⟨⟨(mAt ms ((r.th - 1).toNat)).t.kind, ((mAt ms ((r.th - 1).toNat)).t.lab), (mAt ms ((r.th - 1).toNat)).t.ve, (mAt ms ((r.th - 1).toNat)).t.num, (mAt ms ((r.th - 1).toNat)).t.slots, ((mAt ms ((r.th - 1).toNat)).t.queue) ++ ([q.n] : List Int), (mAt ms ((r.th - 1).toNat)).t.to⟩, (mAt ms ((r.th - 1).toNat)).sa, (mAt ms ((r.th - 1).toNat)).sc, a689, cap690⟩ : MTh)) rt_45 rfl rfl (onec_mth _) wide_mth k706 (by omega) rfl ?_
        intro w707 hO708 hg709
        have hb711 := KeepsI.own hb704 hg709 k706 (by decide) (by omega) (by omega)
        have hRO712 : RowsO 29 3 lo w707 (ms.set (r.th - 1).toNat (⟨⟨(mAt ms ((r.th - 1).toNat)).t.kind, ((mAt ms ((r.th - 1).toNat)).t.lab), (mAt ms ((r.th - 1).toNat)).t.ve, (mAt ms ((r.th - 1).toNat)).t.num, (mAt ms ((r.th - 1).toNat)).t.slots, ((mAt ms ((r.th - 1).toNat)).t.queue) ++ ([q.n] : List Int), (mAt ms ((r.th - 1).toNat)).t.to⟩, (mAt ms ((r.th - 1).toNat)).sa, (mAt ms ((r.th - 1).toNat)).sc, a689, cap690⟩ : MTh)) := RowsO.setq (RowsO.own hRO710 hg709 k706 (by decide) (by decide)) (show (r.th - 1).toNat < ms.length by omega) (OwnN.mono (OwnN.typ (OwnN.typB hO692 hS703.grw k701 (by decide)) hg709 k706 (by decide)) hlow) ⟨rfl, rfl, rfl⟩
        refine wpo_nil ?_
        refine wpf_seq_region ?_
        refine wpo_move (v := .int .i64 0) e679 rfl ?_
        refine wpo_assign (v := .int .i64 0) rfl rfl ?_
        refine wpo_nil ?_
        refine wpf_ret ?_
        have hf : far (tabT ms) q r = (tabT (ms.set (r.th - 1).toNat (⟨⟨(mAt ms ((r.th - 1).toNat)).t.kind, ((mAt ms ((r.th - 1).toNat)).t.lab), (mAt ms ((r.th - 1).toNat)).t.ve, (mAt ms ((r.th - 1).toNat)).t.num, (mAt ms ((r.th - 1).toNat)).t.slots, ((mAt ms ((r.th - 1).toNat)).t.queue) ++ ([q.n] : List Int), (mAt ms ((r.th - 1).toNat)).t.to⟩, (mAt ms ((r.th - 1).toNat)).sa, (mAt ms ((r.th - 1).toNat)).sc, a689, cap690⟩ : MTh)), 0) := far_6 h338 (by omega) rfl
        exact ⟨.int .i64 0, res1 rfl rfl, ms.set (r.th - 1).toNat (⟨⟨(mAt ms ((r.th - 1).toNat)).t.kind, ((mAt ms ((r.th - 1).toNat)).t.lab), (mAt ms ((r.th - 1).toNat)).t.ve, (mAt ms ((r.th - 1).toNat)).t.num, (mAt ms ((r.th - 1).toNat)).t.slots, ((mAt ms ((r.th - 1).toNat)).t.queue) ++ ([q.n] : List Int), (mAt ms ((r.th - 1).toNat)).t.to⟩, (mAt ms ((r.th - 1).toNat)).sa, (mAt ms ((r.th - 1).toNat)).sc, a689, cap690⟩ : MTh), by rw [hf], by first | rfl | exact putT_len | (simp only [List.length_set, putT_len]), hO708, hRO712, by rw [hf], hb711⟩
     ·
      have h713 := of_decide_eq_false h338
      refine wpf_seq_region ?_
      refine wpo_eql (q := decide (q.kind = 7)) rfl rfl rfl rfl ?_
      refine wpo_assign (v := .bool (decide (q.kind = 7))) rfl rfl ?_
      refine wpo_nil ?_
      refine wpf_cond rfl (fun h714 => ?_) (fun h714 => ?_)
      ·
       have h715 := of_decide_eq_true h714
       refine wpf_seq ?_
       refine wpf_seq_region ?_
       refine wpo_fieldAddr (o' := 6) fo_45_5 rfl rfl rfl ?_
       have k716 := ((hS117.blk.grown0 hN123.grw).grown hS127.grw (some_ne (by omega)))
       refine wpo_load1 (v := .slice ((mAt ms ((r.th - 1).toNat)).qa) ((mAt ms ((r.th - 1).toNat)).t.queue.length) ((mAt ms ((r.th - 1).toNat)).qc)) ot_43 rfl (k716.cell rfl) rfl ?_
       refine wpo_len (by kernel_rfl) rfl rfl ?_
       refine wpo_eql (q := decide (((mAt ms ((r.th - 1).toNat)).t.queue.length : Int) = 0)) rfl rfl rfl rfl ?_
       refine wpo_nil ?_
       refine wpf_cond rfl (fun h717 => ?_) (fun h717 => ?_)
       ·
        have h718 := of_decide_eq_true h717
        refine wpf_seq_region ?_
        refine wpo_assign (v := .int .i64 (-4)) rfl rfl ?_
        refine wpo_nil ?_
        refine wpf_ret ?_
        refine thn_r ?_
        refine blk_r ?_
        refine thn_r ?_
        have hRO719 := (RowsO.typB (RowsO.low (RowsO.typB (RowsO.low (RowsO.low (RowsO.low hR hN103.grw) hN107.grw) hN113.grw) hS117.grw hN113.blk (by decide) (by decide)) hN123.grw) hS127.grw hN123.blk (by decide) (by decide))
        have k720 := ((k120.grown0 hN123.grw).grown hS127.grw (some_ne (by omega)))
        have hf : far (tabT ms) q r = (tabT (ms), (-4)) := far_7n h714 (by omega)
        exact ⟨.int .i64 (-4), res1 rfl rfl, ms, by rw [hf], by first | rfl | exact putT_len | (simp only [List.length_set, putT_len]), k720, hRO719, by rw [hf], hb128⟩
       ·
        have h721 := of_decide_eq_false h717
        refine wpf_skip ?_
        refine thn_n ?_
        refine wpf_seq_region ?_
        refine wpo_fieldAddr (o' := 6) fo_45_5 rfl rfl rfl ?_
        refine wpo_load1 (v := .slice ((mAt ms ((r.th - 1).toNat)).qa) ((mAt ms ((r.th - 1).toNat)).t.queue.length) ((mAt ms ((r.th - 1).toNat)).qc)) ot_43 rfl (k716.cell rfl) rfl ?_
        have hRO730 := (RowsO.typB (RowsO.low (RowsO.typB (RowsO.low (RowsO.low (RowsO.low hR hN103.grw) hN107.grw) hN113.grw) hS117.grw hN113.blk (by decide) (by decide)) hN123.grw) hS127.grw hN123.blk (by decide) (by decide))
        obtain ⟨b724, q725, o726, ha727, ho728, hr729⟩ := SlAt.at (RowO.th (RowsO.at hRO730 (show (r.th - 1).toNat < ms.length by omega))).2.1 (map_get (iAt_get (show 0 < (mAt ms ((r.th - 1).toNat)).t.queue.length by omega)))
        refine wpo_indexE es_43 rfl rfl ha727 ho728 (by omega) (by omega) rfl ?_
        refine wpo_load1 (v := .int .i64 (iAt (mAt ms ((r.th - 1).toNat)).t.queue 0)) ot_3 rfl (hr729 0 _ rfl) rfl ?_
        refine wpo_assign (v := .int .i64 (iAt (mAt ms ((r.th - 1).toNat)).t.queue 0)) rfl rfl ?_
        refine wpo_nil ?_
        refine wpf_region ?_
        refine wpo_buildSlice (ps := []) (e := 3) (cs := (([] : List Int).flatMap icell).toArray) parts_nil (fun _ => by kernel_rfl) rfl ?_
        intro B731 w732 hN733
        have hlB731 := hN_geI hN733 hb128
        have k734 := ((k120.grown0 hN123.grw).grown hS127.grw (some_ne (by omega)))
        have lt_B_B731 := hN_gtl hN733 (k734).lt
        have lt_B101_B731 := hN_gtl hN733 (k129).lt
        have k735 := ((k124.grown0 hN123.grw).grown hS127.grw (some_ne (by omega)))
        have lt_B105_B731 := hN_gtl hN733 (k735).lt
        have lt_B111_B731 := hN_gtl hN733 (k716).lt
        have lt_B121_B731 := hN_gtl hN733 (hS127.blk).lt
        have hb736 := KeepsI.low hb128 hN733.grw
        refine wpo_fieldAddr (o' := 6) fo_45_5 rfl rfl rfl ?_
        have k737 := (k716.grown0 hN733.grw)
        refine wpo_load1 (v := .slice ((mAt ms ((r.th - 1).toNat)).qa) ((mAt ms ((r.th - 1).toNat)).t.queue.length) ((mAt ms ((r.th - 1).toNat)).qc)) ot_43 rfl (k737.cell rfl) rfl ?_
        have hRO738 := (RowsO.low hRO730 hN733.grw)
        refine wpo_tail (g := icell) (xs := (mAt ms ((r.th - 1).toNat)).t.queue) (e := 3) (sz := 1) (by kernel_rfl) (by kernel_rfl) rfl rfl rfl (by omega) (ownN_le (RowsO.at hRO738 (show (r.th - 1).toNat < ms.length by omega)).q) (RowO.th (RowsO.at hRO738 (show (r.th - 1).toNat < ms.length by omega))).2.1 rfl ?_
        intro a739 hs740
        have k741 := (k734.grown0 hN733.grw)
        have k742 := (k129.grown0 hN733.grw)
        have k743 := (k735.grown0 hN733.grw)
        have k744 := (hS127.blk.grown0 hN733.grw)
        refine wpo_appendN (g := icell) (ys := ([])) (zs := (((mAt ms ((r.th - 1).toNat)).t.queue).drop 1)) (lo := w.heap.size) mk_43 rfl wide_int (by omega) onec_int rfl rfl (OwnN.of (Own.rows wide_int hN733.blk (by simp)) hlB731) (SlAt.low hs740 (World.grownBy.refl _ _)) (fun h => by cases h) (by first | omega | exact Nat.le_of_ble_eq_true rfl | (simp only [List.length_nil, List.length_cons, List.length_append, List.length_replicate]; omega) | (simp only [List.length_drop, List.length_nil]; omega)) (by omega) hb736.size rfl ?_
        intro a745 cap746 w747 hO748 hg749 hor750
        have hg751 : World.grownBy w732 w747 (some B731) := hg749
        have hb752 := KeepsI.new hb736 hg751 (by omega)
        refine wpo_fieldAddr (o' := 6) fo_45_5 rfl rfl rfl ?_
        have k753 := (k737.grown hg751 (some_ne (by omega)))
        refine wpo_store1 (v := .slice a745 ((((mAt ms ((r.th - 1).toNat)).t.queue).drop 1).length) cap746) (cs' := #[.int .i64 ((mAt ms ((r.th - 1).toNat)).t.kind), .int .i64 ((mAt ms ((r.th - 1).toNat)).t.lab.s), .int .i64 ((mAt ms ((r.th - 1).toNat)).t.lab.v), .int .i64 ((mAt ms ((r.th - 1).toNat)).t.ve), .int .i64 ((mAt ms ((r.th - 1).toNat)).t.num), .slice ((mAt ms ((r.th - 1).toNat)).sa) ((mAt ms ((r.th - 1).toNat)).t.slots.length) ((mAt ms ((r.th - 1).toNat)).sc), .slice a745 ((((mAt ms ((r.th - 1).toNat)).t.queue).drop 1).length) cap746, .int .i64 ((mAt ms ((r.th - 1).toNat)).t.to)]) ot_43 rfl rfl rfl k753 (Nat.le_of_ble_eq_true rfl) rfl ?_
        intro w754 hS755
        have hb756 := KeepsI.new hb752 hS755.grw (by omega)
        refine wpo_nil ?_
        refine blk_n ?_
        refine thn_n ?_
        refine wpf_seq_region ?_
        refine wpo_move (v := .slice (some ⟨B, 0, none⟩) ms.length cap) rfl rfl ?_
        refine wpo_fieldAddr (o' := 0) fo_29_0 rfl rfl rfl ?_
        have k757 := ((k743.grown hg751 (some_ne (by omega))).grown hS755.grw (some_ne (by omega)))
        refine wpo_load1 (v := .int .i64 r.th) ot_3 rfl (k757.cell rfl) rfl ?_
        refine wpo_sub (c := r.th - 1) rfl rfl (by omega) (by omega) (by omega) rfl ?_
        refine wpo_loadn (vs := [.int .i64 ((mAt ms ((r.th - 1).toNat)).t.kind), .int .i64 ((mAt ms ((r.th - 1).toNat)).t.lab.s), .int .i64 ((mAt ms ((r.th - 1).toNat)).t.lab.v), .int .i64 ((mAt ms ((r.th - 1).toNat)).t.ve), .int .i64 ((mAt ms ((r.th - 1).toNat)).t.num), .slice ((mAt ms ((r.th - 1).toNat)).sa) ((mAt ms ((r.th - 1).toNat)).t.slots.length) ((mAt ms ((r.th - 1).toNat)).sc), .slice a745 ((((mAt ms ((r.th - 1).toNat)).t.queue).drop 1).length) cap746, .int .i64 ((mAt ms ((r.th - 1).toNat)).t.to)]) rt_45 rfl rfl (hS755.blk.rangeL 0 8 rfl) rfl ?_
        refine wpo_indexAddr (o' := (r.th - 1).toNat * 8) es_54 rfl rfl (by omega) (by omega) (by omega) rfl ?_
        have k758 := ((k741.grown hg751 (some_ne (by omega))).grown hS755.grw (some_ne (by omega)))
        have hRO762 := (RowsO.typB (RowsO.ge hRO738 hg751 hH (by omega)) hS755.grw k753 (by decide) (by decide))
        refine wpo_storenO (g := MTh.cells) (z' := (⟨⟨(mAt ms ((r.th - 1).toNat)).t.kind, ((mAt ms ((r.th - 1).toNat)).t.lab), (mAt ms ((r.th - 1).toNat)).t.ve, (mAt ms ((r.th - 1).toNat)).t.num, (mAt ms ((r.th - 1).toNat)).t.slots, ((mAt ms ((r.th - 1).toNat)).t.queue).drop 1, (mAt ms ((r.th - 1).toNat)).t.to⟩, (mAt ms ((r.th - 1).toNat)).sa, (mAt ms ((r.th - 1).toNat)).sc, a745, cap746⟩ : MTh)) rt_45 rfl rfl (onec_mth _) wide_mth k758 (by omega) rfl ?_
        intro w759 hO760 hg761
        have hb763 := KeepsI.own hb756 hg761 k758 (by decide) (by omega) (by omega)
        have hRO764 : RowsO 29 3 lo w759 (ms.set (r.th - 1).toNat (⟨⟨(mAt ms ((r.th - 1).toNat)).t.kind, ((mAt ms ((r.th - 1).toNat)).t.lab), (mAt ms ((r.th - 1).toNat)).t.ve, (mAt ms ((r.th - 1).toNat)).t.num, (mAt ms ((r.th - 1).toNat)).t.slots, ((mAt ms ((r.th - 1).toNat)).t.queue).drop 1, (mAt ms ((r.th - 1).toNat)).t.to⟩, (mAt ms ((r.th - 1).toNat)).sa, (mAt ms ((r.th - 1).toNat)).sc, a745, cap746⟩ : MTh)) := RowsO.setq (RowsO.own hRO762 hg761 k758 (by decide) (by decide)) (show (r.th - 1).toNat < ms.length by omega) (OwnN.mono (OwnN.typ (OwnN.typB hO748 hS755.grw k753 (by decide)) hg761 k758 (by decide)) hlow) ⟨rfl, rfl, rfl⟩
        refine wpo_nil ?_
        refine wpf_seq_region ?_
        refine wpo_move (v := .int .i64 (iAt (mAt ms ((r.th - 1).toNat)).t.queue 0)) rfl rfl ?_
        refine wpo_assign (v := .int .i64 (iAt (mAt ms ((r.th - 1).toNat)).t.queue 0)) rfl rfl ?_
        refine wpo_nil ?_
        refine wpf_ret ?_
        have hf : far (tabT ms) q r = (tabT (ms.set (r.th - 1).toNat (⟨⟨(mAt ms ((r.th - 1).toNat)).t.kind, ((mAt ms ((r.th - 1).toNat)).t.lab), (mAt ms ((r.th - 1).toNat)).t.ve, (mAt ms ((r.th - 1).toNat)).t.num, (mAt ms ((r.th - 1).toNat)).t.slots, ((mAt ms ((r.th - 1).toNat)).t.queue).drop 1, (mAt ms ((r.th - 1).toNat)).t.to⟩, (mAt ms ((r.th - 1).toNat)).sa, (mAt ms ((r.th - 1).toNat)).sc, a745, cap746⟩ : MTh)), (iAt (mAt ms ((r.th - 1).toNat)).t.queue 0)) := far_7 h714 (by omega) rfl
        exact ⟨.int .i64 (iAt (mAt ms ((r.th - 1).toNat)).t.queue 0), res1 rfl rfl, ms.set (r.th - 1).toNat (⟨⟨(mAt ms ((r.th - 1).toNat)).t.kind, ((mAt ms ((r.th - 1).toNat)).t.lab), (mAt ms ((r.th - 1).toNat)).t.ve, (mAt ms ((r.th - 1).toNat)).t.num, (mAt ms ((r.th - 1).toNat)).t.slots, ((mAt ms ((r.th - 1).toNat)).t.queue).drop 1, (mAt ms ((r.th - 1).toNat)).t.to⟩, (mAt ms ((r.th - 1).toNat)).sa, (mAt ms ((r.th - 1).toNat)).sc, a745, cap746⟩ : MTh), by rw [hf], by first | rfl | exact putT_len | (simp only [List.length_set, putT_len]), hO760, hRO764, by rw [hf], hb763⟩
      ·
       have h765 := of_decide_eq_false h714
       refine wpf_seq_region ?_
       refine wpo_eql (q := decide (q.kind = 8)) rfl rfl rfl rfl ?_
       refine wpo_assign (v := .bool (decide (q.kind = 8))) rfl rfl ?_
       refine wpo_nil ?_
       refine wpf_cond rfl (fun h766 => ?_) (fun h766 => ?_)
       ·
        have hq767 := of_decide_eq_true h766
        have hk8 := renewOk hrow (by omega)
        have h768 := of_decide_eq_true h766
        refine wpf_seq ?_
        refine wpf_seq_region ?_
        refine wpo_fieldAddr (o' := 3) fo_45_2 rfl rfl rfl ?_
        have k769 := ((hS117.blk.grown0 hN123.grw).grown hS127.grw (some_ne (by omega)))
        refine wpo_load1 (v := .int .i64 ((mAt ms ((r.th - 1).toNat)).t.ve)) ot_3 rfl (k769.cell rfl) rfl ?_
        refine wpo_geq (q := decide (5 ≤ (mAt ms ((r.th - 1).toNat)).t.ve)) rfl rfl rfl rfl ?_
        refine wpo_nil ?_
        refine wpf_cond rfl (fun h770 => ?_) (fun h770 => ?_)
        ·
         have h771 := of_decide_eq_true h770
         refine wpf_seq_region ?_
         refine wpo_assign (v := .int .i64 (-4)) rfl rfl ?_
         refine wpo_nil ?_
         refine wpf_ret ?_
         refine thn_r ?_
         refine blk_r ?_
         refine thn_r ?_
         have hRO772 := (RowsO.typB (RowsO.low (RowsO.typB (RowsO.low (RowsO.low (RowsO.low hR hN103.grw) hN107.grw) hN113.grw) hS117.grw hN113.blk (by decide) (by decide)) hN123.grw) hS127.grw hN123.blk (by decide) (by decide))
         have k773 := ((k120.grown0 hN123.grw).grown hS127.grw (some_ne (by omega)))
         have hf : far (tabT ms) q r = (tabT (ms), (-4)) := far_8n h766 (by omega)
         exact ⟨.int .i64 (-4), res1 rfl rfl, ms, by rw [hf], by first | rfl | exact putT_len | (simp only [List.length_set, putT_len]), k773, hRO772, by rw [hf], hb128⟩
        ·
         have h774 := of_decide_eq_false h770
         refine wpf_skip ?_
         refine thn_n ?_
         refine wpf_seq_region ?_
         refine wpo_fieldAddr (o' := 0) fo_45_0 rfl rfl rfl ?_
         refine wpo_load1 (v := .int .i64 ((mAt ms ((r.th - 1).toNat)).t.kind)) ot_3 rfl (k769.cell rfl) rfl ?_
         refine wpo_fieldAddr (o' := 1) fo_45_1 rfl rfl rfl ?_
         refine wpo_loadn (vs := [.int .i64 ((mAt ms ((r.th - 1).toNat)).t.lab.s), .int .i64 ((mAt ms ((r.th - 1).toNat)).t.lab.v)]) rt_40 rfl rfl (k769.rangeL 1 2 rfl) rfl ?_
         refine wpo_fieldAddr (o' := 7) fo_45_6 rfl rfl rfl ?_
         refine wpo_load1 (v := .int .i64 ((mAt ms ((r.th - 1).toNat)).t.to)) ot_3 rfl (k769.cell rfl) rfl ?_
         rcases bcases ((decide ((mAt ms ((r.th - 1).toNat)).t.kind = 2)) || (decide ((mAt ms ((r.th - 1).toNat)).t.kind = 3))) with h775 | h775
         ·
          have k776 := ((k120.grown0 hN123.grw).grown hS127.grw (some_ne (by omega)))
          have k777 := ((k124.grown0 hN123.grw).grown hS127.grw (some_ne (by omega)))
          have h778 : thingOk (⟨(mAt ms ((r.th - 1).toNat)).t.kind, ((mAt ms ((r.th - 1).toNat)).t.lab), 0, 0, zeros4, [], (mAt ms ((r.th - 1).toNat)).t.to⟩ : Th) = true := (newOk_y h775).symm.trans hk8
          refine wpo_call (vs := [.int .i64 ((mAt ms ((r.th - 1).toNat)).t.kind), .agg #[.int .i64 ((mAt ms ((r.th - 1).toNat)).t.lab.s), .int .i64 ((mAt ms ((r.th - 1).toNat)).t.lab.v)], .int .i64 ((mAt ms ((r.th - 1).toNat)).t.to)]) gf_23 (args_cons rfl (args_cons rfl (args_cons rfl args_nil))) rfl (sThingNew_yt ((mAt ms ((r.th - 1).toNat)).t.kind) ((mAt ms ((r.th - 1).toNat)).t.to) ((mAt ms ((r.th - 1).toNat)).t.lab) h775 hk8 _) ?_
          rintro _ w779 ⟨B781, cap782, B785, cap786, rfl, hge783, hO784, hge787, hO788, ne_B781_B785, hg780⟩
          have hb789 := KeepsI.low hb128 hg780
          have hlB781 := Nat.le_trans hb128.size hge783
          have lt_B_B781 := Nat.lt_of_lt_of_le (k776).lt hge783
          have lt_B101_B781 := Nat.lt_of_lt_of_le (k129).lt hge783
          have lt_B105_B781 := Nat.lt_of_lt_of_le (k777).lt hge783
          have lt_B111_B781 := Nat.lt_of_lt_of_le (k769).lt hge783
          have lt_B121_B781 := Nat.lt_of_lt_of_le (hS127.blk).lt hge783
          have hlB785 := Nat.le_trans hb128.size hge787
          have lt_B_B785 := Nat.lt_of_lt_of_le (k776).lt hge787
          have lt_B101_B785 := Nat.lt_of_lt_of_le (k129).lt hge787
          have lt_B105_B785 := Nat.lt_of_lt_of_le (k777).lt hge787
          have lt_B111_B785 := Nat.lt_of_lt_of_le (k769).lt hge787
          have lt_B121_B785 := Nat.lt_of_lt_of_le (hS127.blk).lt hge787
          refine wpo_move (v := .tuple #[.agg #[.int .i64 ((mAt ms ((r.th - 1).toNat)).t.kind), .int .i64 ((mAt ms ((r.th - 1).toNat)).t.lab.s), .int .i64 ((mAt ms ((r.th - 1).toNat)).t.lab.v), .int .i64 0, .int .i64 0, .slice (some ⟨B781, 0, none⟩) 4 cap782, .slice (some ⟨B785, 0, none⟩) 0 cap786, .int .i64 ((mAt ms ((r.th - 1).toNat)).t.to)], .bool true]) rfl rfl ?_
          refine wpo_extract (v := .agg #[.int .i64 ((mAt ms ((r.th - 1).toNat)).t.kind), .int .i64 ((mAt ms ((r.th - 1).toNat)).t.lab.s), .int .i64 ((mAt ms ((r.th - 1).toNat)).t.lab.v), .int .i64 0, .int .i64 0, .slice (some ⟨B781, 0, none⟩) 4 cap782, .slice (some ⟨B785, 0, none⟩) 0 cap786, .int .i64 ((mAt ms ((r.th - 1).toNat)).t.to)]) rfl rfl rfl ?_
          refine wpo_extract (v := .bool true) rfl rfl rfl ?_
          refine wpo_alloc (cs := #[.int .i64 0, .int .i64 0, .int .i64 0, .int .i64 0, .int .i64 0, .slice none 0 0, .slice none 0 0, .int .i64 0]) zt_45 rfl rfl ?_
          intro B790 w791 hN792
          have hlB790 := hN_geI hN792 hb789
          have k793 := (k776.grown0 hg780)
          have lt_B_B790 := hN_gtl hN792 (k793).lt
          have k794 := (k129.grown0 hg780)
          have lt_B101_B790 := hN_gtl hN792 (k794).lt
          have k795 := (k777.grown0 hg780)
          have lt_B105_B790 := hN_gtl hN792 (k795).lt
          have k796 := (k769.grown0 hg780)
          have lt_B111_B790 := hN_gtl hN792 (k796).lt
          have k797 := (hS127.blk.grown0 hg780)
          have lt_B121_B790 := hN_gtl hN792 (k797).lt
          have lt_B785_B790 := hN_gtl hN792 (hO788).lt
          have lt_B781_B790 := hN_gtl hN792 (hO784).lt
          have hb798 := KeepsI.low hb789 hN792.grw
          refine wpo_storen (vs := [.int .i64 ((mAt ms ((r.th - 1).toNat)).t.kind), .int .i64 ((mAt ms ((r.th - 1).toNat)).t.lab.s), .int .i64 ((mAt ms ((r.th - 1).toNat)).t.lab.v), .int .i64 0, .int .i64 0, .slice (some ⟨B781, 0, none⟩) 4 cap782, .slice (some ⟨B785, 0, none⟩) 0 cap786, .int .i64 ((mAt ms ((r.th - 1).toNat)).t.to)]) (cs' := #[.int .i64 ((mAt ms ((r.th - 1).toNat)).t.kind), .int .i64 ((mAt ms ((r.th - 1).toNat)).t.lab.s), .int .i64 ((mAt ms ((r.th - 1).toNat)).t.lab.v), .int .i64 0, .int .i64 0, .slice (some ⟨B781, 0, none⟩) 4 cap782, .slice (some ⟨B785, 0, none⟩) 0 cap786, .int .i64 ((mAt ms ((r.th - 1).toNat)).t.to)]) rt_45 rfl rfl rfl (by simp [Value.oneCell']) hN792.blk (Nat.le_of_ble_eq_true rfl) rfl ?_
          intro w799 hS800
          have hb801 := KeepsI.new hb798 hS800.grw (by omega)
          refine wpo_assign (v := .bool true) rfl rfl ?_
          refine wpo_nil ?_
          refine wpf_seq_region ?_
          refine wpo_fieldAddr (o' := 3) fo_45_2 rfl rfl rfl ?_
          have k802 := ((k796.grown0 hN792.grw).grown hS800.grw (some_ne (by omega)))
          refine wpo_load1 (v := .int .i64 ((mAt ms ((r.th - 1).toNat)).t.ve)) ot_3 rfl (k802.cell rfl) rfl ?_
          refine wpo_add (c := (mAt ms ((r.th - 1).toNat)).t.ve + 1) rfl rfl (by omega) (by omega) (by omega) rfl ?_
          refine wpo_fieldAddr (o' := 3) fo_45_2 rfl rfl rfl ?_
          refine wpo_store1 (v := .int .i64 ((mAt ms ((r.th - 1).toNat)).t.ve + 1)) (cs' := #[.int .i64 ((mAt ms ((r.th - 1).toNat)).t.kind), .int .i64 ((mAt ms ((r.th - 1).toNat)).t.lab.s), .int .i64 ((mAt ms ((r.th - 1).toNat)).t.lab.v), .int .i64 ((mAt ms ((r.th - 1).toNat)).t.ve + 1), .int .i64 0, .slice (some ⟨B781, 0, none⟩) 4 cap782, .slice (some ⟨B785, 0, none⟩) 0 cap786, .int .i64 ((mAt ms ((r.th - 1).toNat)).t.to)]) ot_3 rfl rfl rfl hS800.blk (Nat.le_of_ble_eq_true rfl) rfl ?_
          intro w803 hS804
          have hb805 := KeepsI.new hb801 hS804.grw (by omega)
          refine wpo_nil ?_
          refine wpf_region ?_
          refine wpo_loadn (vs := [.int .i64 ((mAt ms ((r.th - 1).toNat)).t.kind), .int .i64 ((mAt ms ((r.th - 1).toNat)).t.lab.s), .int .i64 ((mAt ms ((r.th - 1).toNat)).t.lab.v), .int .i64 ((mAt ms ((r.th - 1).toNat)).t.ve + 1), .int .i64 0, .slice (some ⟨B781, 0, none⟩) 4 cap782, .slice (some ⟨B785, 0, none⟩) 0 cap786, .int .i64 ((mAt ms ((r.th - 1).toNat)).t.to)]) rt_45 rfl rfl (hS804.blk.rangeL 0 8 rfl) rfl ?_
          have k806 := (k802.grown hS804.grw (some_ne (by omega)))
          refine wpo_storen (vs := [.int .i64 ((mAt ms ((r.th - 1).toNat)).t.kind), .int .i64 ((mAt ms ((r.th - 1).toNat)).t.lab.s), .int .i64 ((mAt ms ((r.th - 1).toNat)).t.lab.v), .int .i64 ((mAt ms ((r.th - 1).toNat)).t.ve + 1), .int .i64 0, .slice (some ⟨B781, 0, none⟩) 4 cap782, .slice (some ⟨B785, 0, none⟩) 0 cap786, .int .i64 ((mAt ms ((r.th - 1).toNat)).t.to)]) (cs' := #[.int .i64 ((mAt ms ((r.th - 1).toNat)).t.kind), .int .i64 ((mAt ms ((r.th - 1).toNat)).t.lab.s), .int .i64 ((mAt ms ((r.th - 1).toNat)).t.lab.v), .int .i64 ((mAt ms ((r.th - 1).toNat)).t.ve + 1), .int .i64 0, .slice (some ⟨B781, 0, none⟩) 4 cap782, .slice (some ⟨B785, 0, none⟩) 0 cap786, .int .i64 ((mAt ms ((r.th - 1).toNat)).t.to)]) rt_45 rfl rfl rfl (by simp [Value.oneCell']) k806 (Nat.le_of_ble_eq_true rfl) rfl ?_
          intro w807 hS808
          have hb809 := KeepsI.new hb805 hS808.grw (by omega)
          refine wpo_nil ?_
          refine blk_n ?_
          refine thn_n ?_
          refine wpf_seq_region ?_
          refine wpo_move (v := .slice (some ⟨B, 0, none⟩) ms.length cap) rfl rfl ?_
          refine wpo_fieldAddr (o' := 0) fo_29_0 rfl rfl rfl ?_
          have k810 := ((((k795.grown0 hN792.grw).grown hS800.grw (some_ne (by omega))).grown hS804.grw (some_ne (by omega))).grown hS808.grw (some_ne (by omega)))
          refine wpo_load1 (v := .int .i64 r.th) ot_3 rfl (k810.cell rfl) rfl ?_
          refine wpo_sub (c := r.th - 1) rfl rfl (by omega) (by omega) (by omega) rfl ?_
          refine wpo_loadn (vs := [.int .i64 ((mAt ms ((r.th - 1).toNat)).t.kind), .int .i64 ((mAt ms ((r.th - 1).toNat)).t.lab.s), .int .i64 ((mAt ms ((r.th - 1).toNat)).t.lab.v), .int .i64 ((mAt ms ((r.th - 1).toNat)).t.ve + 1), .int .i64 0, .slice (some ⟨B781, 0, none⟩) 4 cap782, .slice (some ⟨B785, 0, none⟩) 0 cap786, .int .i64 ((mAt ms ((r.th - 1).toNat)).t.to)]) rt_45 rfl rfl (hS808.blk.rangeL 0 8 rfl) rfl ?_
          refine wpo_indexAddr (o' := (r.th - 1).toNat * 8) es_54 rfl rfl (by omega) (by omega) (by omega) rfl ?_
          have k811 := ((((k793.grown0 hN792.grw).grown hS800.grw (some_ne (by omega))).grown hS804.grw (some_ne (by omega))).grown hS808.grw (some_ne (by omega)))
          have hRO815 := (RowsO.typB (RowsO.typB (RowsO.typB (RowsO.low (RowsO.low (RowsO.typB (RowsO.low (RowsO.typB (RowsO.low (RowsO.low (RowsO.low hR hN103.grw) hN107.grw) hN113.grw) hS117.grw hN113.blk (by decide) (by decide)) hN123.grw) hS127.grw hN123.blk (by decide) (by decide)) hg780) hN792.grw) hS800.grw hN792.blk (by decide) (by decide)) hS804.grw hS800.blk (by decide) (by decide)) hS808.grw k806 (by decide) (by decide))
          have k816 := ((((hO784.grown0 hN792.grw).grown hS800.grw (some_ne (by omega))).grown hS804.grw (some_ne (by omega))).grown hS808.grw (some_ne (by omega)))
          have k817 := ((((hO788.grown0 hN792.grw).grown hS800.grw (some_ne (by omega))).grown hS804.grw (some_ne (by omega))).grown hS808.grw (some_ne (by omega)))
          refine wpo_storenO (g := MTh.cells) (z' := (⟨⟨(mAt ms ((r.th - 1).toNat)).t.kind, ((mAt ms ((r.th - 1).toNat)).t.lab), (mAt ms ((r.th - 1).toNat)).t.ve + 1, 0, zeros4, [], (mAt ms ((r.th - 1).toNat)).t.to⟩, some ⟨B781, 0, none⟩, cap782, some ⟨B785, 0, none⟩, cap786⟩ : MTh)) rt_45 rfl rfl (onec_mth _) wide_mth k811 (by omega) rfl ?_
          intro w812 hO813 hg814
          have hb818 := KeepsI.own hb809 hg814 k811 (by decide) (by omega) (by omega)
          have k820 := (k816.grown hg814 (some_ne (by omega)))
          have k821 := (k817.grown hg814 (some_ne (by omega)))
          have hRO819 : RowsO 29 3 lo w812 (ms.set (r.th - 1).toNat (⟨⟨(mAt ms ((r.th - 1).toNat)).t.kind, ((mAt ms ((r.th - 1).toNat)).t.lab), (mAt ms ((r.th - 1).toNat)).t.ve + 1, 0, zeros4, [], (mAt ms ((r.th - 1).toNat)).t.to⟩, some ⟨B781, 0, none⟩, cap782, some ⟨B785, 0, none⟩, cap786⟩ : MTh)) := RowsO.setn (RowsO.own hRO815 hg814 k811 (by decide) (by decide)) (show (r.th - 1).toNat < ms.length by omega) ⟨(OwnN.mono (OwnN.of k820 hlB781) hlow), (OwnN.mono (OwnN.of k821 hlB785) hlow)⟩ hH (fun S e => by simp only [Option.some.injEq, Addr.mk.injEq, and_true, reduceCtorEq] at e; omega)
          refine wpo_nil ?_
          refine wpf_seq_region ?_
          refine wpo_move (v := .int .i64 0) rfl rfl ?_
          refine wpo_assign (v := .int .i64 0) rfl rfl ?_
          refine wpo_nil ?_
          refine wpf_ret ?_
          have hf : far (tabT ms) q r = (tabT (ms.set (r.th - 1).toNat (⟨⟨(mAt ms ((r.th - 1).toNat)).t.kind, ((mAt ms ((r.th - 1).toNat)).t.lab), (mAt ms ((r.th - 1).toNat)).t.ve + 1, 0, zeros4, [], (mAt ms ((r.th - 1).toNat)).t.to⟩, some ⟨B781, 0, none⟩, cap782, some ⟨B785, 0, none⟩, cap786⟩ : MTh)), 0) := far_8 h766 (by omega) (renewed_y h775)
          exact ⟨.int .i64 0, res1 rfl rfl, ms.set (r.th - 1).toNat (⟨⟨(mAt ms ((r.th - 1).toNat)).t.kind, ((mAt ms ((r.th - 1).toNat)).t.lab), (mAt ms ((r.th - 1).toNat)).t.ve + 1, 0, zeros4, [], (mAt ms ((r.th - 1).toNat)).t.to⟩, some ⟨B781, 0, none⟩, cap782, some ⟨B785, 0, none⟩, cap786⟩ : MTh), by rw [hf], by first | rfl | exact putT_len | (simp only [List.length_set, putT_len]), hO813, hRO819, by rw [hf], hb818⟩
         ·
          have h822 := or_l h775
          have h823 := of_decide_eq_false h822
          have h824 := or_r h775
          have h825 := of_decide_eq_false h824
          have k826 := ((k120.grown0 hN123.grw).grown hS127.grw (some_ne (by omega)))
          have k827 := ((k124.grown0 hN123.grw).grown hS127.grw (some_ne (by omega)))
          have h828 : thingOk (⟨(mAt ms ((r.th - 1).toNat)).t.kind, ((mAt ms ((r.th - 1).toNat)).t.lab), 0, 0, [], [], (mAt ms ((r.th - 1).toNat)).t.to⟩ : Th) = true := (newOk_n h775).symm.trans hk8
          refine wpo_call (vs := [.int .i64 ((mAt ms ((r.th - 1).toNat)).t.kind), .agg #[.int .i64 ((mAt ms ((r.th - 1).toNat)).t.lab.s), .int .i64 ((mAt ms ((r.th - 1).toNat)).t.lab.v)], .int .i64 ((mAt ms ((r.th - 1).toNat)).t.to)]) gf_23 (args_cons rfl (args_cons rfl (args_cons rfl args_nil))) rfl (sThingNew_nt ((mAt ms ((r.th - 1).toNat)).t.kind) ((mAt ms ((r.th - 1).toNat)).t.to) ((mAt ms ((r.th - 1).toNat)).t.lab) h775 hk8 _) ?_
          rintro _ w829 ⟨B831, cap832, B835, cap836, rfl, hge833, hO834, hge837, hO838, ne_B831_B835, hg830⟩
          have hb839 := KeepsI.low hb128 hg830
          have hlB831 := Nat.le_trans hb128.size hge833
          have lt_B_B831 := Nat.lt_of_lt_of_le (k826).lt hge833
          have lt_B101_B831 := Nat.lt_of_lt_of_le (k129).lt hge833
          have lt_B105_B831 := Nat.lt_of_lt_of_le (k827).lt hge833
          have lt_B111_B831 := Nat.lt_of_lt_of_le (k769).lt hge833
          have lt_B121_B831 := Nat.lt_of_lt_of_le (hS127.blk).lt hge833
          have hlB835 := Nat.le_trans hb128.size hge837
          have lt_B_B835 := Nat.lt_of_lt_of_le (k826).lt hge837
          have lt_B101_B835 := Nat.lt_of_lt_of_le (k129).lt hge837
          have lt_B105_B835 := Nat.lt_of_lt_of_le (k827).lt hge837
          have lt_B111_B835 := Nat.lt_of_lt_of_le (k769).lt hge837
          have lt_B121_B835 := Nat.lt_of_lt_of_le (hS127.blk).lt hge837
          refine wpo_move (v := .tuple #[.agg #[.int .i64 ((mAt ms ((r.th - 1).toNat)).t.kind), .int .i64 ((mAt ms ((r.th - 1).toNat)).t.lab.s), .int .i64 ((mAt ms ((r.th - 1).toNat)).t.lab.v), .int .i64 0, .int .i64 0, .slice (some ⟨B831, 0, none⟩) 0 cap832, .slice (some ⟨B835, 0, none⟩) 0 cap836, .int .i64 ((mAt ms ((r.th - 1).toNat)).t.to)], .bool true]) rfl rfl ?_
          refine wpo_extract (v := .agg #[.int .i64 ((mAt ms ((r.th - 1).toNat)).t.kind), .int .i64 ((mAt ms ((r.th - 1).toNat)).t.lab.s), .int .i64 ((mAt ms ((r.th - 1).toNat)).t.lab.v), .int .i64 0, .int .i64 0, .slice (some ⟨B831, 0, none⟩) 0 cap832, .slice (some ⟨B835, 0, none⟩) 0 cap836, .int .i64 ((mAt ms ((r.th - 1).toNat)).t.to)]) rfl rfl rfl ?_
          refine wpo_extract (v := .bool true) rfl rfl rfl ?_
          refine wpo_alloc (cs := #[.int .i64 0, .int .i64 0, .int .i64 0, .int .i64 0, .int .i64 0, .slice none 0 0, .slice none 0 0, .int .i64 0]) zt_45 rfl rfl ?_
          intro B840 w841 hN842
          have hlB840 := hN_geI hN842 hb839
          have k843 := (k826.grown0 hg830)
          have lt_B_B840 := hN_gtl hN842 (k843).lt
          have k844 := (k129.grown0 hg830)
          have lt_B101_B840 := hN_gtl hN842 (k844).lt
          have k845 := (k827.grown0 hg830)
          have lt_B105_B840 := hN_gtl hN842 (k845).lt
          have k846 := (k769.grown0 hg830)
          have lt_B111_B840 := hN_gtl hN842 (k846).lt
          have k847 := (hS127.blk.grown0 hg830)
          have lt_B121_B840 := hN_gtl hN842 (k847).lt
          have lt_B835_B840 := hN_gtl hN842 (hO838).lt
          have lt_B831_B840 := hN_gtl hN842 (hO834).lt
          have hb848 := KeepsI.low hb839 hN842.grw
          refine wpo_storen (vs := [.int .i64 ((mAt ms ((r.th - 1).toNat)).t.kind), .int .i64 ((mAt ms ((r.th - 1).toNat)).t.lab.s), .int .i64 ((mAt ms ((r.th - 1).toNat)).t.lab.v), .int .i64 0, .int .i64 0, .slice (some ⟨B831, 0, none⟩) 0 cap832, .slice (some ⟨B835, 0, none⟩) 0 cap836, .int .i64 ((mAt ms ((r.th - 1).toNat)).t.to)]) (cs' := #[.int .i64 ((mAt ms ((r.th - 1).toNat)).t.kind), .int .i64 ((mAt ms ((r.th - 1).toNat)).t.lab.s), .int .i64 ((mAt ms ((r.th - 1).toNat)).t.lab.v), .int .i64 0, .int .i64 0, .slice (some ⟨B831, 0, none⟩) 0 cap832, .slice (some ⟨B835, 0, none⟩) 0 cap836, .int .i64 ((mAt ms ((r.th - 1).toNat)).t.to)]) rt_45 rfl rfl rfl (by simp [Value.oneCell']) hN842.blk (Nat.le_of_ble_eq_true rfl) rfl ?_
          intro w849 hS850
          have hb851 := KeepsI.new hb848 hS850.grw (by omega)
          refine wpo_assign (v := .bool true) rfl rfl ?_
          refine wpo_nil ?_
          refine wpf_seq_region ?_
          refine wpo_fieldAddr (o' := 3) fo_45_2 rfl rfl rfl ?_
          have k852 := ((k846.grown0 hN842.grw).grown hS850.grw (some_ne (by omega)))
          refine wpo_load1 (v := .int .i64 ((mAt ms ((r.th - 1).toNat)).t.ve)) ot_3 rfl (k852.cell rfl) rfl ?_
          refine wpo_add (c := (mAt ms ((r.th - 1).toNat)).t.ve + 1) rfl rfl (by omega) (by omega) (by omega) rfl ?_
          refine wpo_fieldAddr (o' := 3) fo_45_2 rfl rfl rfl ?_
          refine wpo_store1 (v := .int .i64 ((mAt ms ((r.th - 1).toNat)).t.ve + 1)) (cs' := #[.int .i64 ((mAt ms ((r.th - 1).toNat)).t.kind), .int .i64 ((mAt ms ((r.th - 1).toNat)).t.lab.s), .int .i64 ((mAt ms ((r.th - 1).toNat)).t.lab.v), .int .i64 ((mAt ms ((r.th - 1).toNat)).t.ve + 1), .int .i64 0, .slice (some ⟨B831, 0, none⟩) 0 cap832, .slice (some ⟨B835, 0, none⟩) 0 cap836, .int .i64 ((mAt ms ((r.th - 1).toNat)).t.to)]) ot_3 rfl rfl rfl hS850.blk (Nat.le_of_ble_eq_true rfl) rfl ?_
          intro w853 hS854
          have hb855 := KeepsI.new hb851 hS854.grw (by omega)
          refine wpo_nil ?_
          refine wpf_region ?_
          refine wpo_loadn (vs := [.int .i64 ((mAt ms ((r.th - 1).toNat)).t.kind), .int .i64 ((mAt ms ((r.th - 1).toNat)).t.lab.s), .int .i64 ((mAt ms ((r.th - 1).toNat)).t.lab.v), .int .i64 ((mAt ms ((r.th - 1).toNat)).t.ve + 1), .int .i64 0, .slice (some ⟨B831, 0, none⟩) 0 cap832, .slice (some ⟨B835, 0, none⟩) 0 cap836, .int .i64 ((mAt ms ((r.th - 1).toNat)).t.to)]) rt_45 rfl rfl (hS854.blk.rangeL 0 8 rfl) rfl ?_
          have k856 := (k852.grown hS854.grw (some_ne (by omega)))
          refine wpo_storen (vs := [.int .i64 ((mAt ms ((r.th - 1).toNat)).t.kind), .int .i64 ((mAt ms ((r.th - 1).toNat)).t.lab.s), .int .i64 ((mAt ms ((r.th - 1).toNat)).t.lab.v), .int .i64 ((mAt ms ((r.th - 1).toNat)).t.ve + 1), .int .i64 0, .slice (some ⟨B831, 0, none⟩) 0 cap832, .slice (some ⟨B835, 0, none⟩) 0 cap836, .int .i64 ((mAt ms ((r.th - 1).toNat)).t.to)]) (cs' := #[.int .i64 ((mAt ms ((r.th - 1).toNat)).t.kind), .int .i64 ((mAt ms ((r.th - 1).toNat)).t.lab.s), .int .i64 ((mAt ms ((r.th - 1).toNat)).t.lab.v), .int .i64 ((mAt ms ((r.th - 1).toNat)).t.ve + 1), .int .i64 0, .slice (some ⟨B831, 0, none⟩) 0 cap832, .slice (some ⟨B835, 0, none⟩) 0 cap836, .int .i64 ((mAt ms ((r.th - 1).toNat)).t.to)]) rt_45 rfl rfl rfl (by simp [Value.oneCell']) k856 (Nat.le_of_ble_eq_true rfl) rfl ?_
          intro w857 hS858
          have hb859 := KeepsI.new hb855 hS858.grw (by omega)
          refine wpo_nil ?_
          refine blk_n ?_
          refine thn_n ?_
          refine wpf_seq_region ?_
          refine wpo_move (v := .slice (some ⟨B, 0, none⟩) ms.length cap) rfl rfl ?_
          refine wpo_fieldAddr (o' := 0) fo_29_0 rfl rfl rfl ?_
          have k860 := ((((k845.grown0 hN842.grw).grown hS850.grw (some_ne (by omega))).grown hS854.grw (some_ne (by omega))).grown hS858.grw (some_ne (by omega)))
          refine wpo_load1 (v := .int .i64 r.th) ot_3 rfl (k860.cell rfl) rfl ?_
          refine wpo_sub (c := r.th - 1) rfl rfl (by omega) (by omega) (by omega) rfl ?_
          refine wpo_loadn (vs := [.int .i64 ((mAt ms ((r.th - 1).toNat)).t.kind), .int .i64 ((mAt ms ((r.th - 1).toNat)).t.lab.s), .int .i64 ((mAt ms ((r.th - 1).toNat)).t.lab.v), .int .i64 ((mAt ms ((r.th - 1).toNat)).t.ve + 1), .int .i64 0, .slice (some ⟨B831, 0, none⟩) 0 cap832, .slice (some ⟨B835, 0, none⟩) 0 cap836, .int .i64 ((mAt ms ((r.th - 1).toNat)).t.to)]) rt_45 rfl rfl (hS858.blk.rangeL 0 8 rfl) rfl ?_
          refine wpo_indexAddr (o' := (r.th - 1).toNat * 8) es_54 rfl rfl (by omega) (by omega) (by omega) rfl ?_
          have k861 := ((((k843.grown0 hN842.grw).grown hS850.grw (some_ne (by omega))).grown hS854.grw (some_ne (by omega))).grown hS858.grw (some_ne (by omega)))
          have hRO865 := (RowsO.typB (RowsO.typB (RowsO.typB (RowsO.low (RowsO.low (RowsO.typB (RowsO.low (RowsO.typB (RowsO.low (RowsO.low (RowsO.low hR hN103.grw) hN107.grw) hN113.grw) hS117.grw hN113.blk (by decide) (by decide)) hN123.grw) hS127.grw hN123.blk (by decide) (by decide)) hg830) hN842.grw) hS850.grw hN842.blk (by decide) (by decide)) hS854.grw hS850.blk (by decide) (by decide)) hS858.grw k856 (by decide) (by decide))
          have k866 := ((((hO834.grown0 hN842.grw).grown hS850.grw (some_ne (by omega))).grown hS854.grw (some_ne (by omega))).grown hS858.grw (some_ne (by omega)))
          have k867 := ((((hO838.grown0 hN842.grw).grown hS850.grw (some_ne (by omega))).grown hS854.grw (some_ne (by omega))).grown hS858.grw (some_ne (by omega)))
          refine wpo_storenO (g := MTh.cells) (z' := (⟨⟨(mAt ms ((r.th - 1).toNat)).t.kind, ((mAt ms ((r.th - 1).toNat)).t.lab), (mAt ms ((r.th - 1).toNat)).t.ve + 1, 0, [], [], (mAt ms ((r.th - 1).toNat)).t.to⟩, some ⟨B831, 0, none⟩, cap832, some ⟨B835, 0, none⟩, cap836⟩ : MTh)) rt_45 rfl rfl (onec_mth _) wide_mth k861 (by omega) rfl ?_
          intro w862 hO863 hg864
          have hb868 := KeepsI.own hb859 hg864 k861 (by decide) (by omega) (by omega)
          have k870 := (k866.grown hg864 (some_ne (by omega)))
          have k871 := (k867.grown hg864 (some_ne (by omega)))
          have hRO869 : RowsO 29 3 lo w862 (ms.set (r.th - 1).toNat (⟨⟨(mAt ms ((r.th - 1).toNat)).t.kind, ((mAt ms ((r.th - 1).toNat)).t.lab), (mAt ms ((r.th - 1).toNat)).t.ve + 1, 0, [], [], (mAt ms ((r.th - 1).toNat)).t.to⟩, some ⟨B831, 0, none⟩, cap832, some ⟨B835, 0, none⟩, cap836⟩ : MTh)) := RowsO.setn (RowsO.own hRO865 hg864 k861 (by decide) (by decide)) (show (r.th - 1).toNat < ms.length by omega) ⟨(OwnN.mono (OwnN.of k870 hlB831) hlow), (OwnN.mono (OwnN.of k871 hlB835) hlow)⟩ hH (fun S e => by simp only [Option.some.injEq, Addr.mk.injEq, and_true, reduceCtorEq] at e; omega)
          refine wpo_nil ?_
          refine wpf_seq_region ?_
          refine wpo_move (v := .int .i64 0) rfl rfl ?_
          refine wpo_assign (v := .int .i64 0) rfl rfl ?_
          refine wpo_nil ?_
          refine wpf_ret ?_
          have hf : far (tabT ms) q r = (tabT (ms.set (r.th - 1).toNat (⟨⟨(mAt ms ((r.th - 1).toNat)).t.kind, ((mAt ms ((r.th - 1).toNat)).t.lab), (mAt ms ((r.th - 1).toNat)).t.ve + 1, 0, [], [], (mAt ms ((r.th - 1).toNat)).t.to⟩, some ⟨B831, 0, none⟩, cap832, some ⟨B835, 0, none⟩, cap836⟩ : MTh)), 0) := far_8 h766 (by omega) (renewed_n h775)
          exact ⟨.int .i64 0, res1 rfl rfl, ms.set (r.th - 1).toNat (⟨⟨(mAt ms ((r.th - 1).toNat)).t.kind, ((mAt ms ((r.th - 1).toNat)).t.lab), (mAt ms ((r.th - 1).toNat)).t.ve + 1, 0, [], [], (mAt ms ((r.th - 1).toNat)).t.to⟩, some ⟨B831, 0, none⟩, cap832, some ⟨B835, 0, none⟩, cap836⟩ : MTh), by rw [hf], by first | rfl | exact putT_len | (simp only [List.length_set, putT_len]), hO863, hRO869, by rw [hf], hb868⟩
       ·
        have h872 := of_decide_eq_false h766
        refine wpf_seq_region ?_
        refine wpo_eql (q := decide (q.kind = 9)) rfl rfl rfl rfl ?_
        refine wpo_assign (v := .bool (decide (q.kind = 9))) rfl rfl ?_
        refine wpo_nil ?_
        refine wpf_cond rfl (fun h873 => ?_) (fun h873 => ?_)
        ·
         have hq874 := of_decide_eq_true h873
         have hg9 := kindAt_parts (gate_to hT (by rw [tabT_len]; omega) (by rw [← mAt_th]; omega))
         rw [← mAt_th] at hg9
         have h875 := of_decide_eq_true h873
         refine wpf_seq_region ?_
         refine wpo_fieldAddr (o' := 4) fo_45_3 rfl rfl rfl ?_
         have k876 := ((hS117.blk.grown0 hN123.grw).grown hS127.grw (some_ne (by omega)))
         refine wpo_load1 (v := .int .i64 ((mAt ms ((r.th - 1).toNat)).t.num)) ot_3 rfl (k876.cell rfl) rfl ?_
         refine wpo_add (c := (mAt ms ((r.th - 1).toNat)).t.num + 1) rfl rfl (by omega) (by omega) (by omega) rfl ?_
         refine wpo_min (c := min ((mAt ms ((r.th - 1).toNat)).t.num + 1) 99) rfl rfl rfl rfl ?_
         refine wpo_fieldAddr (o' := 4) fo_45_3 rfl rfl rfl ?_
         refine wpo_store1 (v := .int .i64 (min ((mAt ms ((r.th - 1).toNat)).t.num + 1) 99)) (cs' := #[.int .i64 ((mAt ms ((r.th - 1).toNat)).t.kind), .int .i64 ((mAt ms ((r.th - 1).toNat)).t.lab.s), .int .i64 ((mAt ms ((r.th - 1).toNat)).t.lab.v), .int .i64 ((mAt ms ((r.th - 1).toNat)).t.ve), .int .i64 (min ((mAt ms ((r.th - 1).toNat)).t.num + 1) 99), .slice ((mAt ms ((r.th - 1).toNat)).sa) ((mAt ms ((r.th - 1).toNat)).t.slots.length) ((mAt ms ((r.th - 1).toNat)).sc), .slice ((mAt ms ((r.th - 1).toNat)).qa) ((mAt ms ((r.th - 1).toNat)).t.queue.length) ((mAt ms ((r.th - 1).toNat)).qc), .int .i64 ((mAt ms ((r.th - 1).toNat)).t.to)]) ot_3 rfl rfl rfl k876 (Nat.le_of_ble_eq_true rfl) rfl ?_
         intro w877 hS878
         have hb879 := KeepsI.new hb128 hS878.grw (by omega)
         refine wpo_nil ?_
         refine wpf_region ?_
         refine wpo_move (v := .slice (some ⟨B, 0, none⟩) ms.length cap) rfl rfl ?_
         refine wpo_fieldAddr (o' := 7) fo_45_6 rfl rfl rfl ?_
         refine wpo_load1 (v := .int .i64 ((mAt ms ((r.th - 1).toNat)).t.to)) ot_3 rfl (hS878.blk.cell rfl) rfl ?_
         refine wpo_sub (c := ((mAt ms ((r.th - 1).toNat)).t.to) - 1) rfl rfl (by omega) (by omega) (by omega) rfl ?_
         refine wpo_fieldAddr (o' := 4) fo_76_4 rfl rfl rfl ?_
         have k880 := (k129.grown hS878.grw (some_ne (by omega)))
         refine wpo_load1 (v := .int .i64 q.n) ot_3 rfl (k880.cell rfl) rfl ?_
         refine wpo_rem (c := q.n % 2) rfl rfl (by omega) (by omega) (by omega) rfl rfl ?_
         refine wpo_indexAddr (o' := (((mAt ms ((r.th - 1).toNat)).t.to) - 1).toNat * 8) es_54 rfl rfl (by omega) (by omega) (by omega) rfl ?_
         refine wpo_fieldAddr (o' := (((mAt ms ((r.th - 1).toNat)).t.to) - 1).toNat * 8 + 4) fo_45_3 rfl rfl rfl ?_
         have k881 := (((k120.grown0 hN123.grw).grown hS127.grw (some_ne (by omega))).grown hS878.grw (some_ne (by omega)))
         have hRO885 := (RowsO.typB (RowsO.typB (RowsO.low (RowsO.typB (RowsO.low (RowsO.low (RowsO.low hR hN103.grw) hN107.grw) hN113.grw) hS117.grw hN113.blk (by decide) (by decide)) hN123.grw) hS127.grw hN123.blk (by decide) (by decide)) hS878.grw k876 (by decide) (by decide))
         refine wpo_store1O (g := MTh.cells) (j := 4) (z := (mAt ms ((((mAt ms ((r.th - 1).toNat)).t.to) - 1).toNat))) (z' := (⟨⟨(mAt ms ((((mAt ms ((r.th - 1).toNat)).t.to) - 1).toNat)).t.kind, ((mAt ms ((((mAt ms ((r.th - 1).toNat)).t.to) - 1).toNat)).t.lab), (mAt ms ((((mAt ms ((r.th - 1).toNat)).t.to) - 1).toNat)).t.ve, q.n % 2, (mAt ms ((((mAt ms ((r.th - 1).toNat)).t.to) - 1).toNat)).t.slots, (mAt ms ((((mAt ms ((r.th - 1).toNat)).t.to) - 1).toNat)).t.queue, (mAt ms ((((mAt ms ((r.th - 1).toNat)).t.to) - 1).toNat)).t.to⟩, (mAt ms ((((mAt ms ((r.th - 1).toNat)).t.to) - 1).toNat)).sa, (mAt ms ((((mAt ms ((r.th - 1).toNat)).t.to) - 1).toNat)).sc, (mAt ms ((((mAt ms ((r.th - 1).toNat)).t.to) - 1).toNat)).qa, (mAt ms ((((mAt ms ((r.th - 1).toNat)).t.to) - 1).toNat)).qc⟩ : MTh)) (v := .int .i64 (q.n % 2)) ot_3 rfl rfl rfl wide_mth k881 (mAt_get (show (((mAt ms ((r.th - 1).toNat)).t.to) - 1).toNat < ms.length by omega)) (by omega) rfl rfl ?_
         intro w882 hO883 hg884
         have hb886 := KeepsI.own hb879 hg884 k881 (by decide) (by omega) (by omega)
         have hRO887 : RowsO 29 3 lo w882 (ms.set (((mAt ms ((r.th - 1).toNat)).t.to) - 1).toNat (⟨⟨(mAt ms ((((mAt ms ((r.th - 1).toNat)).t.to) - 1).toNat)).t.kind, ((mAt ms ((((mAt ms ((r.th - 1).toNat)).t.to) - 1).toNat)).t.lab), (mAt ms ((((mAt ms ((r.th - 1).toNat)).t.to) - 1).toNat)).t.ve, q.n % 2, (mAt ms ((((mAt ms ((r.th - 1).toNat)).t.to) - 1).toNat)).t.slots, (mAt ms ((((mAt ms ((r.th - 1).toNat)).t.to) - 1).toNat)).t.queue, (mAt ms ((((mAt ms ((r.th - 1).toNat)).t.to) - 1).toNat)).t.to⟩, (mAt ms ((((mAt ms ((r.th - 1).toNat)).t.to) - 1).toNat)).sa, (mAt ms ((((mAt ms ((r.th - 1).toNat)).t.to) - 1).toNat)).sc, (mAt ms ((((mAt ms ((r.th - 1).toNat)).t.to) - 1).toNat)).qa, (mAt ms ((((mAt ms ((r.th - 1).toNat)).t.to) - 1).toNat)).qc⟩ : MTh)) := RowsO.set (RowsO.own hRO885 hg884 k881 (by decide) (by decide)) (show (((mAt ms ((r.th - 1).toNat)).t.to) - 1).toNat < ms.length by omega) ⟨rfl, rfl, rfl⟩ ⟨rfl, rfl, rfl⟩
         refine wpo_nil ?_
         refine blk_n ?_
         refine thn_n ?_
         refine wpf_seq_region ?_
         refine wpo_move (v := .slice (some ⟨B, 0, none⟩) ms.length cap) rfl rfl ?_
         refine wpo_fieldAddr (o' := 0) fo_29_0 rfl rfl rfl ?_
         have k888 := ((((k124.grown0 hN123.grw).grown hS127.grw (some_ne (by omega))).grown hS878.grw (some_ne (by omega))).grown hg884 (some_ne (by omega)))
         refine wpo_load1 (v := .int .i64 r.th) ot_3 rfl (k888.cell rfl) rfl ?_
         refine wpo_sub (c := r.th - 1) rfl rfl (by omega) (by omega) (by omega) rfl ?_
         have k889 := (hS878.blk.grown hg884 (some_ne (by omega)))
         refine wpo_loadn (vs := [.int .i64 ((mAt ms ((r.th - 1).toNat)).t.kind), .int .i64 ((mAt ms ((r.th - 1).toNat)).t.lab.s), .int .i64 ((mAt ms ((r.th - 1).toNat)).t.lab.v), .int .i64 ((mAt ms ((r.th - 1).toNat)).t.ve), .int .i64 (min ((mAt ms ((r.th - 1).toNat)).t.num + 1) 99), .slice ((mAt ms ((r.th - 1).toNat)).sa) ((mAt ms ((r.th - 1).toNat)).t.slots.length) ((mAt ms ((r.th - 1).toNat)).sc), .slice ((mAt ms ((r.th - 1).toNat)).qa) ((mAt ms ((r.th - 1).toNat)).t.queue.length) ((mAt ms ((r.th - 1).toNat)).qc), .int .i64 ((mAt ms ((r.th - 1).toNat)).t.to)]) rt_45 rfl rfl (k889.rangeL 0 8 rfl) rfl ?_
         refine wpo_indexAddr (o' := (r.th - 1).toNat * 8) es_54 rfl rfl (by omega) (by omega) (by omega) rfl ?_
         refine wpo_storenO (g := MTh.cells) (z' := (⟨⟨(mAt ms ((r.th - 1).toNat)).t.kind, ((mAt ms ((r.th - 1).toNat)).t.lab), (mAt ms ((r.th - 1).toNat)).t.ve, min ((mAt ms ((r.th - 1).toNat)).t.num + 1) 99, (mAt ms ((r.th - 1).toNat)).t.slots, (mAt ms ((r.th - 1).toNat)).t.queue, (mAt ms ((r.th - 1).toNat)).t.to⟩, (mAt ms ((r.th - 1).toNat)).sa, (mAt ms ((r.th - 1).toNat)).sc, (mAt ms ((r.th - 1).toNat)).qa, (mAt ms ((r.th - 1).toNat)).qc⟩ : MTh)) rt_45 rfl rfl (onec_mth _) wide_mth hO883 (by (simp only [List.length_set, putT_len]; omega)) rfl ?_
         intro w890 hO891 hg892
         have hb893 := KeepsI.own hb886 hg892 hO883 (by decide) (by omega) (by omega)
         have hRO894 : RowsO 29 3 lo w890 ((ms.set (((mAt ms ((r.th - 1).toNat)).t.to) - 1).toNat (⟨⟨(mAt ms ((((mAt ms ((r.th - 1).toNat)).t.to) - 1).toNat)).t.kind, ((mAt ms ((((mAt ms ((r.th - 1).toNat)).t.to) - 1).toNat)).t.lab), (mAt ms ((((mAt ms ((r.th - 1).toNat)).t.to) - 1).toNat)).t.ve, q.n % 2, (mAt ms ((((mAt ms ((r.th - 1).toNat)).t.to) - 1).toNat)).t.slots, (mAt ms ((((mAt ms ((r.th - 1).toNat)).t.to) - 1).toNat)).t.queue, (mAt ms ((((mAt ms ((r.th - 1).toNat)).t.to) - 1).toNat)).t.to⟩, (mAt ms ((((mAt ms ((r.th - 1).toNat)).t.to) - 1).toNat)).sa, (mAt ms ((((mAt ms ((r.th - 1).toNat)).t.to) - 1).toNat)).sc, (mAt ms ((((mAt ms ((r.th - 1).toNat)).t.to) - 1).toNat)).qa, (mAt ms ((((mAt ms ((r.th - 1).toNat)).t.to) - 1).toNat)).qc⟩ : MTh)).set (r.th - 1).toNat (⟨⟨(mAt ms ((r.th - 1).toNat)).t.kind, ((mAt ms ((r.th - 1).toNat)).t.lab), (mAt ms ((r.th - 1).toNat)).t.ve, min ((mAt ms ((r.th - 1).toNat)).t.num + 1) 99, (mAt ms ((r.th - 1).toNat)).t.slots, (mAt ms ((r.th - 1).toNat)).t.queue, (mAt ms ((r.th - 1).toNat)).t.to⟩, (mAt ms ((r.th - 1).toNat)).sa, (mAt ms ((r.th - 1).toNat)).sc, (mAt ms ((r.th - 1).toNat)).qa, (mAt ms ((r.th - 1).toNat)).qc⟩ : MTh)) := RowsO.set (RowsO.own hRO887 hg892 hO883 (by decide) (by decide)) (show (r.th - 1).toNat < (ms.set (((mAt ms ((r.th - 1).toNat)).t.to) - 1).toNat (⟨⟨(mAt ms ((((mAt ms ((r.th - 1).toNat)).t.to) - 1).toNat)).t.kind, ((mAt ms ((((mAt ms ((r.th - 1).toNat)).t.to) - 1).toNat)).t.lab), (mAt ms ((((mAt ms ((r.th - 1).toNat)).t.to) - 1).toNat)).t.ve, q.n % 2, (mAt ms ((((mAt ms ((r.th - 1).toNat)).t.to) - 1).toNat)).t.slots, (mAt ms ((((mAt ms ((r.th - 1).toNat)).t.to) - 1).toNat)).t.queue, (mAt ms ((((mAt ms ((r.th - 1).toNat)).t.to) - 1).toNat)).t.to⟩, (mAt ms ((((mAt ms ((r.th - 1).toNat)).t.to) - 1).toNat)).sa, (mAt ms ((((mAt ms ((r.th - 1).toNat)).t.to) - 1).toNat)).sc, (mAt ms ((((mAt ms ((r.th - 1).toNat)).t.to) - 1).toNat)).qa, (mAt ms ((((mAt ms ((r.th - 1).toNat)).t.to) - 1).toNat)).qc⟩ : MTh)).length by (simp only [List.length_set, putT_len]; omega)) ⟨(mAt_same (i := (r.th - 1).toNat) (m2 := (⟨⟨(mAt ms ((((mAt ms ((r.th - 1).toNat)).t.to) - 1).toNat)).t.kind, ((mAt ms ((((mAt ms ((r.th - 1).toNat)).t.to) - 1).toNat)).t.lab), (mAt ms ((((mAt ms ((r.th - 1).toNat)).t.to) - 1).toNat)).t.ve, q.n % 2, (mAt ms ((((mAt ms ((r.th - 1).toNat)).t.to) - 1).toNat)).t.slots, (mAt ms ((((mAt ms ((r.th - 1).toNat)).t.to) - 1).toNat)).t.queue, (mAt ms ((((mAt ms ((r.th - 1).toNat)).t.to) - 1).toNat)).t.to⟩, (mAt ms ((((mAt ms ((r.th - 1).toNat)).t.to) - 1).toNat)).sa, (mAt ms ((((mAt ms ((r.th - 1).toNat)).t.to) - 1).toNat)).sc, (mAt ms ((((mAt ms ((r.th - 1).toNat)).t.to) - 1).toNat)).qa, (mAt ms ((((mAt ms ((r.th - 1).toNat)).t.to) - 1).toNat)).qc⟩ : MTh)) MTh.qa (show (((mAt ms ((r.th - 1).toNat)).t.to) - 1).toNat < ms.length by omega) rfl).symm, (mAt_same (i := (r.th - 1).toNat) (m2 := (⟨⟨(mAt ms ((((mAt ms ((r.th - 1).toNat)).t.to) - 1).toNat)).t.kind, ((mAt ms ((((mAt ms ((r.th - 1).toNat)).t.to) - 1).toNat)).t.lab), (mAt ms ((((mAt ms ((r.th - 1).toNat)).t.to) - 1).toNat)).t.ve, q.n % 2, (mAt ms ((((mAt ms ((r.th - 1).toNat)).t.to) - 1).toNat)).t.slots, (mAt ms ((((mAt ms ((r.th - 1).toNat)).t.to) - 1).toNat)).t.queue, (mAt ms ((((mAt ms ((r.th - 1).toNat)).t.to) - 1).toNat)).t.to⟩, (mAt ms ((((mAt ms ((r.th - 1).toNat)).t.to) - 1).toNat)).sa, (mAt ms ((((mAt ms ((r.th - 1).toNat)).t.to) - 1).toNat)).sc, (mAt ms ((((mAt ms ((r.th - 1).toNat)).t.to) - 1).toNat)).qa, (mAt ms ((((mAt ms ((r.th - 1).toNat)).t.to) - 1).toNat)).qc⟩ : MTh)) MTh.qc (show (((mAt ms ((r.th - 1).toNat)).t.to) - 1).toNat < ms.length by omega) rfl).symm, (mAt_same (i := (r.th - 1).toNat) (m2 := (⟨⟨(mAt ms ((((mAt ms ((r.th - 1).toNat)).t.to) - 1).toNat)).t.kind, ((mAt ms ((((mAt ms ((r.th - 1).toNat)).t.to) - 1).toNat)).t.lab), (mAt ms ((((mAt ms ((r.th - 1).toNat)).t.to) - 1).toNat)).t.ve, q.n % 2, (mAt ms ((((mAt ms ((r.th - 1).toNat)).t.to) - 1).toNat)).t.slots, (mAt ms ((((mAt ms ((r.th - 1).toNat)).t.to) - 1).toNat)).t.queue, (mAt ms ((((mAt ms ((r.th - 1).toNat)).t.to) - 1).toNat)).t.to⟩, (mAt ms ((((mAt ms ((r.th - 1).toNat)).t.to) - 1).toNat)).sa, (mAt ms ((((mAt ms ((r.th - 1).toNat)).t.to) - 1).toNat)).sc, (mAt ms ((((mAt ms ((r.th - 1).toNat)).t.to) - 1).toNat)).qa, (mAt ms ((((mAt ms ((r.th - 1).toNat)).t.to) - 1).toNat)).qc⟩ : MTh)) (fun m => m.t.queue) (show (((mAt ms ((r.th - 1).toNat)).t.to) - 1).toNat < ms.length by omega) rfl).symm⟩ ⟨(mAt_same (i := (r.th - 1).toNat) (m2 := (⟨⟨(mAt ms ((((mAt ms ((r.th - 1).toNat)).t.to) - 1).toNat)).t.kind, ((mAt ms ((((mAt ms ((r.th - 1).toNat)).t.to) - 1).toNat)).t.lab), (mAt ms ((((mAt ms ((r.th - 1).toNat)).t.to) - 1).toNat)).t.ve, q.n % 2, (mAt ms ((((mAt ms ((r.th - 1).toNat)).t.to) - 1).toNat)).t.slots, (mAt ms ((((mAt ms ((r.th - 1).toNat)).t.to) - 1).toNat)).t.queue, (mAt ms ((((mAt ms ((r.th - 1).toNat)).t.to) - 1).toNat)).t.to⟩, (mAt ms ((((mAt ms ((r.th - 1).toNat)).t.to) - 1).toNat)).sa, (mAt ms ((((mAt ms ((r.th - 1).toNat)).t.to) - 1).toNat)).sc, (mAt ms ((((mAt ms ((r.th - 1).toNat)).t.to) - 1).toNat)).qa, (mAt ms ((((mAt ms ((r.th - 1).toNat)).t.to) - 1).toNat)).qc⟩ : MTh)) MTh.sa (show (((mAt ms ((r.th - 1).toNat)).t.to) - 1).toNat < ms.length by omega) rfl).symm, (mAt_same (i := (r.th - 1).toNat) (m2 := (⟨⟨(mAt ms ((((mAt ms ((r.th - 1).toNat)).t.to) - 1).toNat)).t.kind, ((mAt ms ((((mAt ms ((r.th - 1).toNat)).t.to) - 1).toNat)).t.lab), (mAt ms ((((mAt ms ((r.th - 1).toNat)).t.to) - 1).toNat)).t.ve, q.n % 2, (mAt ms ((((mAt ms ((r.th - 1).toNat)).t.to) - 1).toNat)).t.slots, (mAt ms ((((mAt ms ((r.th - 1).toNat)).t.to) - 1).toNat)).t.queue, (mAt ms ((((mAt ms ((r.th - 1).toNat)).t.to) - 1).toNat)).t.to⟩, (mAt ms ((((mAt ms ((r.th - 1).toNat)).t.to) - 1).toNat)).sa, (mAt ms ((((mAt ms ((r.th - 1).toNat)).t.to) - 1).toNat)).sc, (mAt ms ((((mAt ms ((r.th - 1).toNat)).t.to) - 1).toNat)).qa, (mAt ms ((((mAt ms ((r.th - 1).toNat)).t.to) - 1).toNat)).qc⟩ : MTh)) MTh.sc (show (((mAt ms ((r.th - 1).toNat)).t.to) - 1).toNat < ms.length by omega) rfl).symm, (mAt_same (i := (r.th - 1).toNat) (m2 := (⟨⟨(mAt ms ((((mAt ms ((r.th - 1).toNat)).t.to) - 1).toNat)).t.kind, ((mAt ms ((((mAt ms ((r.th - 1).toNat)).t.to) - 1).toNat)).t.lab), (mAt ms ((((mAt ms ((r.th - 1).toNat)).t.to) - 1).toNat)).t.ve, q.n % 2, (mAt ms ((((mAt ms ((r.th - 1).toNat)).t.to) - 1).toNat)).t.slots, (mAt ms ((((mAt ms ((r.th - 1).toNat)).t.to) - 1).toNat)).t.queue, (mAt ms ((((mAt ms ((r.th - 1).toNat)).t.to) - 1).toNat)).t.to⟩, (mAt ms ((((mAt ms ((r.th - 1).toNat)).t.to) - 1).toNat)).sa, (mAt ms ((((mAt ms ((r.th - 1).toNat)).t.to) - 1).toNat)).sc, (mAt ms ((((mAt ms ((r.th - 1).toNat)).t.to) - 1).toNat)).qa, (mAt ms ((((mAt ms ((r.th - 1).toNat)).t.to) - 1).toNat)).qc⟩ : MTh)) (fun m => m.t.slots) (show (((mAt ms ((r.th - 1).toNat)).t.to) - 1).toNat < ms.length by omega) rfl).symm⟩
         refine wpo_nil ?_
         refine wpf_seq_region ?_
         refine wpo_move (v := .int .i64 0) rfl rfl ?_
         refine wpo_assign (v := .int .i64 0) rfl rfl ?_
         refine wpo_nil ?_
         refine wpf_ret ?_
         have hf : far (tabT ms) q r = (tabT ((ms.set (((mAt ms ((r.th - 1).toNat)).t.to) - 1).toNat (⟨⟨(mAt ms ((((mAt ms ((r.th - 1).toNat)).t.to) - 1).toNat)).t.kind, ((mAt ms ((((mAt ms ((r.th - 1).toNat)).t.to) - 1).toNat)).t.lab), (mAt ms ((((mAt ms ((r.th - 1).toNat)).t.to) - 1).toNat)).t.ve, q.n % 2, (mAt ms ((((mAt ms ((r.th - 1).toNat)).t.to) - 1).toNat)).t.slots, (mAt ms ((((mAt ms ((r.th - 1).toNat)).t.to) - 1).toNat)).t.queue, (mAt ms ((((mAt ms ((r.th - 1).toNat)).t.to) - 1).toNat)).t.to⟩, (mAt ms ((((mAt ms ((r.th - 1).toNat)).t.to) - 1).toNat)).sa, (mAt ms ((((mAt ms ((r.th - 1).toNat)).t.to) - 1).toNat)).sc, (mAt ms ((((mAt ms ((r.th - 1).toNat)).t.to) - 1).toNat)).qa, (mAt ms ((((mAt ms ((r.th - 1).toNat)).t.to) - 1).toNat)).qc⟩ : MTh)).set (r.th - 1).toNat (⟨⟨(mAt ms ((r.th - 1).toNat)).t.kind, ((mAt ms ((r.th - 1).toNat)).t.lab), (mAt ms ((r.th - 1).toNat)).t.ve, min ((mAt ms ((r.th - 1).toNat)).t.num + 1) 99, (mAt ms ((r.th - 1).toNat)).t.slots, (mAt ms ((r.th - 1).toNat)).t.queue, (mAt ms ((r.th - 1).toNat)).t.to⟩, (mAt ms ((r.th - 1).toNat)).sa, (mAt ms ((r.th - 1).toNat)).sc, (mAt ms ((r.th - 1).toNat)).qa, (mAt ms ((r.th - 1).toNat)).qc⟩ : MTh)), 0) := far_9 h873 rfl rfl
         exact ⟨.int .i64 0, res1 rfl rfl, (ms.set (((mAt ms ((r.th - 1).toNat)).t.to) - 1).toNat (⟨⟨(mAt ms ((((mAt ms ((r.th - 1).toNat)).t.to) - 1).toNat)).t.kind, ((mAt ms ((((mAt ms ((r.th - 1).toNat)).t.to) - 1).toNat)).t.lab), (mAt ms ((((mAt ms ((r.th - 1).toNat)).t.to) - 1).toNat)).t.ve, q.n % 2, (mAt ms ((((mAt ms ((r.th - 1).toNat)).t.to) - 1).toNat)).t.slots, (mAt ms ((((mAt ms ((r.th - 1).toNat)).t.to) - 1).toNat)).t.queue, (mAt ms ((((mAt ms ((r.th - 1).toNat)).t.to) - 1).toNat)).t.to⟩, (mAt ms ((((mAt ms ((r.th - 1).toNat)).t.to) - 1).toNat)).sa, (mAt ms ((((mAt ms ((r.th - 1).toNat)).t.to) - 1).toNat)).sc, (mAt ms ((((mAt ms ((r.th - 1).toNat)).t.to) - 1).toNat)).qa, (mAt ms ((((mAt ms ((r.th - 1).toNat)).t.to) - 1).toNat)).qc⟩ : MTh)).set (r.th - 1).toNat (⟨⟨(mAt ms ((r.th - 1).toNat)).t.kind, ((mAt ms ((r.th - 1).toNat)).t.lab), (mAt ms ((r.th - 1).toNat)).t.ve, min ((mAt ms ((r.th - 1).toNat)).t.num + 1) 99, (mAt ms ((r.th - 1).toNat)).t.slots, (mAt ms ((r.th - 1).toNat)).t.queue, (mAt ms ((r.th - 1).toNat)).t.to⟩, (mAt ms ((r.th - 1).toNat)).sa, (mAt ms ((r.th - 1).toNat)).sc, (mAt ms ((r.th - 1).toNat)).qa, (mAt ms ((r.th - 1).toNat)).qc⟩ : MTh), by rw [hf], by first | rfl | exact putT_len | (simp only [List.length_set, putT_len]), hO891, hRO894, by rw [hf], hb893⟩
        ·
         have h895 := of_decide_eq_false h873
         refine wpf_skip ?_
         refine blk_n ?_
         refine thn_n ?_
         refine wpf_seq_region ?_
         refine wpo_move (v := .slice (some ⟨B, 0, none⟩) ms.length cap) rfl rfl ?_
         refine wpo_fieldAddr (o' := 0) fo_29_0 rfl rfl rfl ?_
         have k896 := ((k124.grown0 hN123.grw).grown hS127.grw (some_ne (by omega)))
         refine wpo_load1 (v := .int .i64 r.th) ot_3 rfl (k896.cell rfl) rfl ?_
         refine wpo_sub (c := r.th - 1) rfl rfl (by omega) (by omega) (by omega) rfl ?_
         have k897 := ((hS117.blk.grown0 hN123.grw).grown hS127.grw (some_ne (by omega)))
         refine wpo_loadn (vs := [.int .i64 ((mAt ms ((r.th - 1).toNat)).t.kind), .int .i64 ((mAt ms ((r.th - 1).toNat)).t.lab.s), .int .i64 ((mAt ms ((r.th - 1).toNat)).t.lab.v), .int .i64 ((mAt ms ((r.th - 1).toNat)).t.ve), .int .i64 ((mAt ms ((r.th - 1).toNat)).t.num), .slice ((mAt ms ((r.th - 1).toNat)).sa) ((mAt ms ((r.th - 1).toNat)).t.slots.length) ((mAt ms ((r.th - 1).toNat)).sc), .slice ((mAt ms ((r.th - 1).toNat)).qa) ((mAt ms ((r.th - 1).toNat)).t.queue.length) ((mAt ms ((r.th - 1).toNat)).qc), .int .i64 ((mAt ms ((r.th - 1).toNat)).t.to)]) rt_45 rfl rfl (k897.rangeL 0 8 rfl) rfl ?_
         refine wpo_indexAddr (o' := (r.th - 1).toNat * 8) es_54 rfl rfl (by omega) (by omega) (by omega) rfl ?_
         have k898 := ((k120.grown0 hN123.grw).grown hS127.grw (some_ne (by omega)))
         have hRO902 := (RowsO.typB (RowsO.low (RowsO.typB (RowsO.low (RowsO.low (RowsO.low hR hN103.grw) hN107.grw) hN113.grw) hS117.grw hN113.blk (by decide) (by decide)) hN123.grw) hS127.grw hN123.blk (by decide) (by decide))
         refine wpo_storenO (g := MTh.cells) (z' := (mAt ms ((r.th - 1).toNat))) rt_45 rfl rfl (onec_mth _) wide_mth k898 (by omega) rfl ?_
         intro w899 hO900 hg901
         have hb903 := KeepsI.own hb128 hg901 k898 (by decide) (by omega) (by omega)
         have hRO904 : RowsO 29 3 lo w899 (ms.set (r.th - 1).toNat (mAt ms ((r.th - 1).toNat))) := RowsO.set (RowsO.own hRO902 hg901 k898 (by decide) (by decide)) (show (r.th - 1).toNat < ms.length by omega) ⟨rfl, rfl, rfl⟩ ⟨rfl, rfl, rfl⟩
         refine wpo_nil ?_
         refine wpf_seq_region ?_
         refine wpo_move (v := .int .i64 0) rfl rfl ?_
         refine wpo_assign (v := .int .i64 0) rfl rfl ?_
         refine wpo_nil ?_
         refine wpf_ret ?_
         exfalso; omega
theorem gf_119 : goFn Try.prog 119 = true := by kernel_rfl
theorem gf_121 : goFn Try.prog 121 = true := by kernel_rfl
theorem l12Do_c (q : Cl) (lo B cap : Nat) (ms : List MTh) (w : World) (hB : Dw.Own w B 45 8 cap ms.length (ms.flatMap MTh.cells)) (hR : RowsO 29 3 lo w ms) (hlo : lo ≤ B) (hp : callPoss (tabT ms) q = true) : CallsR Try.prog 113 #[.slice (some ⟨B, 0, none⟩) ms.length cap, .agg #[.int .i64 q.kind, .int .i64 q.run, .int .i64 q.a, .int .i64 q.b, .int .i64 q.n]] w (fun v w' => ∃ ms' : List MTh, v = .tuple #[.slice (some ⟨B, 0, none⟩) ms.length cap, .int .i64 ((doCall (tabT ms) q).2)] ∧ ms'.length = ms.length ∧ Dw.Own w' B 45 8 cap ms'.length (ms'.flatMap MTh.cells) ∧ RowsO 29 3 lo w' ms' ∧ tabT ms' = (doCall (tabT ms) q).1 ∧ KeepsI lo w.heap.size [45, 29, 3] w w') := by
 refine calls_of_wpf (n := 79) Try.func113 rfl Try.ntmps113 rfl ?_
 have hb0 : KeepsI lo w.heap.size [45, 29, 3] w w := KeepsI.refl w
 have hBlt := hB.lt
 have hH := RowsO.hi hR
 have hlow : lo ≤ w.heap.size := by omega
 obtain ⟨hT, hc, hk⟩ := callPoss_parts hp
 have hco := callOk_iff hc
 have hkp := (kindAt_parts hk).1
 have h4 := run_slots hT hk
 have hml := tab_len hT
 have hTL := TabLen.ok hT
 have hck := check_rng (tabT ms) q
 have hts := tab_slot hT (i := (q.run - 1).toNat) (j := q.a.toNat) (by omega) (by omega)
 refine wpf_seq_region ?_
 refine wpo_box (v := .agg #[.int .i64 q.kind, .int .i64 q.run, .int .i64 q.a, .int .i64 q.b, .int .i64 q.n]) (cs := #[.int .i64 q.kind, .int .i64 q.run, .int .i64 q.a, .int .i64 q.b, .int .i64 q.n]) rfl rfl rfl ?_
 intro B101 w102 hN103
 have hlB101 := hN_geI hN103 hb0
 have lt_B_B101 := hN_gtl hN103 (hB).lt
 have hb104 := KeepsI.low hb0 hN103.grw
 refine wpo_assign (v := .slice none 0 0) rfl rfl ?_
 refine wpo_assign (v := .int .i64 0) rfl rfl ?_
 refine wpo_nil ?_
 refine wpf_seq_region ?_
 refine wpo_move (v := .slice (some ⟨B, 0, none⟩) ms.length cap) rfl rfl ?_
 refine wpo_loadn (vs := [.int .i64 q.kind, .int .i64 q.run, .int .i64 q.a, .int .i64 q.b, .int .i64 q.n]) rt_76 rfl rfl (hN103.blk.rangeL 0 5 rfl) rfl ?_
 have hRO105 := (RowsO.low hR hN103.grw)
 have k106 := (hB.grown0 hN103.grw)
 refine wpo_call (vs := [.slice (some ⟨B, 0, none⟩) ms.length cap, .agg #[.int .i64 q.kind, .int .i64 q.run, .int .i64 q.a, .int .i64 q.b, .int .i64 q.n]]) gf_119 (args_cons rfl (args_cons rfl args_nil)) rfl (l11Check_c q _ ms _ _ (RowsO.tab hRO105 k106) hTL (by omega) hT hc hk) ?_
 rintro _ w107 ⟨rfl, hg108⟩
 have hb109 := KeepsI.low hb104 hg108
 refine wpo_assign (v := .int .i64 (check1 (tabT ms) q)) rfl rfl ?_
 refine wpo_nil ?_
 refine wpf_seq ?_
 have hRO144 := (RowsO.low hRO105 hg108)
 obtain ⟨S145, hSa146, hSl147, hSO148⟩ := RowsO.slot hRO144 (show (q.run - 1).toNat < ms.length by omega) (by omega)
 have hSh149 := hH _ (List.mem_of_getElem? (mAt_get (show (q.run - 1).toNat < ms.length by omega))) _ (Or.inl hSa146)
 have k151 := (k106.grown0 hg108)
 have hSn150 := own_ne k151 hSO148 (by decide)
 refine wpf_drawI (m := 12) [[], [], [1], [1, 2], [0, 1, 2, 3], [0, 1, 2, 3, 4], [0, 1, 2, 3, 4, 5], [], [7], [0, 1, 2, 3, 4, 5, 6, 7, 8], [0, 1, 2, 3, 4, 5, 6, 7, 8, 9], [], [0, 1, 2, 3, 4, 5, 6, 7, 8, 9, 10, 11]] (fun S F w' => ∃ (B158 : Nat), w107.grownBy w' none ∧ F 0 = .slice (some ⟨B, 0, none⟩) ms.length cap ∧ F 3 = .pointer (some ⟨B101, 0, none⟩) ∧ F 4 = .slice none 0 0 ∧ F 5 = .int .i64 0 ∧ F 6 = .int .i64 (check1 (tabT ms) q) ∧ (S 0 = true → F 11 = .slice (some ⟨B, 0, none⟩) ms.length cap) ∧ (S 1 = true → F 12 = .pointer (some ⟨B101, 1, none⟩)) ∧ (S 2 = true → F 13 = .int .i64 q.run) ∧ (S 3 = true → F 14 = .int .i64 (q.run - 1)) ∧ (S 4 = true → F 15 = .pointer (some ⟨B, (q.run - 1).toNat * 8, none⟩)) ∧ (S 5 = true → F 16 = .pointer (some ⟨B, (q.run - 1).toNat * 8 + 5, none⟩)) ∧ (S 6 = true → F 17 = .slice ((mAt ms ((q.run - 1).toNat)).sa) ((mAt ms ((q.run - 1).toNat)).t.slots.length) ((mAt ms ((q.run - 1).toNat)).sc)) ∧ (S 7 = true → F 18 = .pointer (some ⟨B101, 2, none⟩)) ∧ (S 8 = true → F 19 = .int .i64 q.a) ∧ (S 9 = true → F 20 = .pointer (some ⟨S145, (q.a).toNat * 5, none⟩)) ∧ (S 10 = true → F 21 = .agg #[.int .i64 ((rAt ((mAt ms ((q.run - 1).toNat)).t.slots) ((q.a).toNat)).th), .int .i64 ((rAt ((mAt ms ((q.run - 1).toNat)).t.slots) ((q.a).toNat)).ve), .bool ((rAt ((mAt ms ((q.run - 1).toNat)).t.slots) ((q.a).toNat)).rd), .bool ((rAt ((mAt ms ((q.run - 1).toNat)).t.slots) ((q.a).toNat)).wr), .bool ((rAt ((mAt ms ((q.run - 1).toNat)).t.slots) ((q.a).toNat)).wk)]) ∧ (S 11 = true → F 7 = .pointer (some ⟨B158, 0, none⟩) ∧ w.heap.size ≤ B158 ∧ Blk w' B158 29 #[.int .i64 0, .int .i64 0, .bool false, .bool false, .bool false] ∧ B < B158 ∧ B101 < B158 ∧ S145 < B158 ∧ w107.heap.size ≤ B158)) mixed_ (by kernel_rfl) ⟨0, grown_drew _, rfl, rfl, rfl, rfl, rfl, fun h => not_begun h, fun h => not_begun h, fun h => not_begun h, fun h => not_begun h, fun h => not_begun h, fun h => not_begun h, fun h => not_begun h, fun h => not_begun h, fun h => not_begun h, fun h => not_begun h, fun h => not_begun h, fun h => not_begun h⟩ ?_ ?_
 ·
  refine preL_cons (fun S F w162 hS hbef hcl hI => ?_) ?_
  ·
   obtain ⟨B158, hi163, e164, e165, e166, e167, e168, c_0, c_1, c_2, c_3, c_4, c_5, c_6, c_7, c_8, c_9, c_10, c_11⟩ := hI
   have hb169 := KeepsI.low hb109 hi163
   refine wpo_move (v := .slice (some ⟨B, 0, none⟩) ms.length cap) e164 rfl ?_
   exact wpo_nil ⟨B158, hi163, e164, e165, e166, e167, e168, fun _ => rfl, c_1, c_2, c_3, fun h => undone 4 hS hcl rfl h, fun h => undone 5 hS hcl rfl h, fun h => undone 6 hS hcl rfl h, c_7, c_8, fun h => undone 9 hS hcl rfl h, fun h => undone 10 hS hcl rfl h, c_11⟩
  refine preL_cons (fun S F w170 hS hbef hcl hI => ?_) ?_
  ·
   obtain ⟨B158, hi171, e172, e173, e174, e175, e176, c_0, c_1, c_2, c_3, c_4, c_5, c_6, c_7, c_8, c_9, c_10, c_11⟩ := hI
   have hb177 := KeepsI.low hb109 hi171
   refine wpo_fieldAddr (o' := 1) fo_76_1 e173 rfl rfl ?_
   exact wpo_nil ⟨B158, hi171, e172, e173, e174, e175, e176, c_0, fun _ => rfl, fun h => undone 2 hS hcl rfl h, fun h => undone 3 hS hcl rfl h, fun h => undone 4 hS hcl rfl h, fun h => undone 5 hS hcl rfl h, fun h => undone 6 hS hcl rfl h, c_7, c_8, fun h => undone 9 hS hcl rfl h, fun h => undone 10 hS hcl rfl h, c_11⟩
  refine preL_cons (fun S F w178 hS hbef hcl hI => ?_) ?_
  ·
   obtain ⟨B158, hi179, e180, e181, e182, e183, e184, c_0, c_1, c_2, c_3, c_4, c_5, c_6, c_7, c_8, c_9, c_10, c_11⟩ := hI
   have hb185 := KeepsI.low hb109 hi179
   obtain e186 := c_1 (ready_of 1 hbef rfl)
   have k187 := ((hN103.blk.grown0 hg108).grown0 hi179)
   refine wpo_load1 (v := .int .i64 q.run) ot_3 e186 (k187.cell rfl) rfl ?_
   exact wpo_nil ⟨B158, hi179, e180, e181, e182, e183, e184, c_0, c_1, fun _ => rfl, fun h => undone 3 hS hcl rfl h, fun h => undone 4 hS hcl rfl h, fun h => undone 5 hS hcl rfl h, fun h => undone 6 hS hcl rfl h, c_7, c_8, fun h => undone 9 hS hcl rfl h, fun h => undone 10 hS hcl rfl h, c_11⟩
  refine preL_cons (fun S F w188 hS hbef hcl hI => ?_) ?_
  ·
   obtain ⟨B158, hi189, e190, e191, e192, e193, e194, c_0, c_1, c_2, c_3, c_4, c_5, c_6, c_7, c_8, c_9, c_10, c_11⟩ := hI
   have hb195 := KeepsI.low hb109 hi189
   obtain e196 := c_1 (ready_of 1 hbef rfl)
   obtain e197 := c_2 (ready_of 2 hbef rfl)
   refine wpo_sub (c := q.run - 1) e197 rfl (by omega) (by omega) (by omega) rfl ?_
   exact wpo_nil ⟨B158, hi189, e190, e191, e192, e193, e194, c_0, c_1, c_2, fun _ => rfl, fun h => undone 4 hS hcl rfl h, fun h => undone 5 hS hcl rfl h, fun h => undone 6 hS hcl rfl h, c_7, c_8, fun h => undone 9 hS hcl rfl h, fun h => undone 10 hS hcl rfl h, c_11⟩
  refine preL_cons (fun S F w198 hS hbef hcl hI => ?_) ?_
  ·
   obtain ⟨B158, hi199, e200, e201, e202, e203, e204, c_0, c_1, c_2, c_3, c_4, c_5, c_6, c_7, c_8, c_9, c_10, c_11⟩ := hI
   have hb205 := KeepsI.low hb109 hi199
   obtain e206 := c_0 (ready_of 0 hbef rfl)
   obtain e207 := c_1 (ready_of 1 hbef rfl)
   obtain e208 := c_2 (ready_of 2 hbef rfl)
   obtain e209 := c_3 (ready_of 3 hbef rfl)
   refine wpo_indexAddr (o' := (q.run - 1).toNat * 8) es_54 e206 e209 (by omega) (by omega) (by omega) rfl ?_
   exact wpo_nil ⟨B158, hi199, e200, e201, e202, e203, e204, c_0, c_1, c_2, c_3, fun _ => rfl, fun h => undone 5 hS hcl rfl h, fun h => undone 6 hS hcl rfl h, c_7, c_8, fun h => undone 9 hS hcl rfl h, fun h => undone 10 hS hcl rfl h, c_11⟩
  refine preL_cons (fun S F w210 hS hbef hcl hI => ?_) ?_
  ·
   obtain ⟨B158, hi211, e212, e213, e214, e215, e216, c_0, c_1, c_2, c_3, c_4, c_5, c_6, c_7, c_8, c_9, c_10, c_11⟩ := hI
   have hb217 := KeepsI.low hb109 hi211
   obtain e218 := c_0 (ready_of 0 hbef rfl)
   obtain e219 := c_1 (ready_of 1 hbef rfl)
   obtain e220 := c_2 (ready_of 2 hbef rfl)
   obtain e221 := c_3 (ready_of 3 hbef rfl)
   obtain e222 := c_4 (ready_of 4 hbef rfl)
   refine wpo_fieldAddr (o' := (q.run - 1).toNat * 8 + 5) fo_45_4 e222 rfl rfl ?_
   exact wpo_nil ⟨B158, hi211, e212, e213, e214, e215, e216, c_0, c_1, c_2, c_3, c_4, fun _ => rfl, fun h => undone 6 hS hcl rfl h, c_7, c_8, fun h => undone 9 hS hcl rfl h, fun h => undone 10 hS hcl rfl h, c_11⟩
  refine preL_cons (fun S F w223 hS hbef hcl hI => ?_) ?_
  ·
   obtain ⟨B158, hi224, e225, e226, e227, e228, e229, c_0, c_1, c_2, c_3, c_4, c_5, c_6, c_7, c_8, c_9, c_10, c_11⟩ := hI
   have hb230 := KeepsI.low hb109 hi224
   obtain e231 := c_0 (ready_of 0 hbef rfl)
   obtain e232 := c_1 (ready_of 1 hbef rfl)
   obtain e233 := c_2 (ready_of 2 hbef rfl)
   obtain e234 := c_3 (ready_of 3 hbef rfl)
   obtain e235 := c_4 (ready_of 4 hbef rfl)
   obtain e236 := c_5 (ready_of 5 hbef rfl)
   have k237 := (k151.grown0 hi224)
   refine wpo_load1 (v := .slice ((mAt ms ((q.run - 1).toNat)).sa) ((mAt ms ((q.run - 1).toNat)).t.slots.length) ((mAt ms ((q.run - 1).toNat)).sc)) ot_27 e236 ((Own.range wide_mth k237 (mAt_get (show (q.run - 1).toNat < ms.length by omega))) 5 _ rfl) rfl ?_
   exact wpo_nil ⟨B158, hi224, e225, e226, e227, e228, e229, c_0, c_1, c_2, c_3, c_4, c_5, fun _ => rfl, c_7, c_8, fun h => undone 9 hS hcl rfl h, fun h => undone 10 hS hcl rfl h, c_11⟩
  refine preL_cons (fun S F w238 hS hbef hcl hI => ?_) ?_
  ·
   obtain ⟨B158, hi239, e240, e241, e242, e243, e244, c_0, c_1, c_2, c_3, c_4, c_5, c_6, c_7, c_8, c_9, c_10, c_11⟩ := hI
   have hb245 := KeepsI.low hb109 hi239
   refine wpo_fieldAddr (o' := 2) fo_76_2 e241 rfl rfl ?_
   exact wpo_nil ⟨B158, hi239, e240, e241, e242, e243, e244, c_0, c_1, c_2, c_3, c_4, c_5, c_6, fun _ => rfl, fun h => undone 8 hS hcl rfl h, fun h => undone 9 hS hcl rfl h, fun h => undone 10 hS hcl rfl h, c_11⟩
  refine preL_cons (fun S F w246 hS hbef hcl hI => ?_) ?_
  ·
   obtain ⟨B158, hi247, e248, e249, e250, e251, e252, c_0, c_1, c_2, c_3, c_4, c_5, c_6, c_7, c_8, c_9, c_10, c_11⟩ := hI
   have hb253 := KeepsI.low hb109 hi247
   obtain e254 := c_7 (ready_of 7 hbef rfl)
   have k255 := ((hN103.blk.grown0 hg108).grown0 hi247)
   refine wpo_load1 (v := .int .i64 q.a) ot_3 e254 (k255.cell rfl) rfl ?_
   exact wpo_nil ⟨B158, hi247, e248, e249, e250, e251, e252, c_0, c_1, c_2, c_3, c_4, c_5, c_6, c_7, fun _ => rfl, fun h => undone 9 hS hcl rfl h, fun h => undone 10 hS hcl rfl h, c_11⟩
  refine preL_cons (fun S F w256 hS hbef hcl hI => ?_) ?_
  ·
   obtain ⟨B158, hi257, e258, e259, e260, e261, e262, c_0, c_1, c_2, c_3, c_4, c_5, c_6, c_7, c_8, c_9, c_10, c_11⟩ := hI
   have hb263 := KeepsI.low hb109 hi257
   obtain e264 := c_0 (ready_of 0 hbef rfl)
   obtain e265 := c_1 (ready_of 1 hbef rfl)
   obtain e266 := c_2 (ready_of 2 hbef rfl)
   obtain e267 := c_3 (ready_of 3 hbef rfl)
   obtain e268 := c_4 (ready_of 4 hbef rfl)
   obtain e269 := c_5 (ready_of 5 hbef rfl)
   obtain e270 := c_6 (ready_of 6 hbef rfl)
   obtain e271 := c_7 (ready_of 7 hbef rfl)
   obtain e272 := c_8 (ready_of 8 hbef rfl)
   refine wpo_indexE es_27 e270 e272 hSa146 (Nat.zero_add _) (by omega) (by omega) rfl ?_
   exact wpo_nil ⟨B158, hi257, e258, e259, e260, e261, e262, c_0, c_1, c_2, c_3, c_4, c_5, c_6, c_7, c_8, fun _ => rfl, fun h => undone 10 hS hcl rfl h, c_11⟩
  refine preL_cons (fun S F w273 hS hbef hcl hI => ?_) ?_
  ·
   obtain ⟨B158, hi274, e275, e276, e277, e278, e279, c_0, c_1, c_2, c_3, c_4, c_5, c_6, c_7, c_8, c_9, c_10, c_11⟩ := hI
   have hb280 := KeepsI.low hb109 hi274
   obtain e281 := c_0 (ready_of 0 hbef rfl)
   obtain e282 := c_1 (ready_of 1 hbef rfl)
   obtain e283 := c_2 (ready_of 2 hbef rfl)
   obtain e284 := c_3 (ready_of 3 hbef rfl)
   obtain e285 := c_4 (ready_of 4 hbef rfl)
   obtain e286 := c_5 (ready_of 5 hbef rfl)
   obtain e287 := c_6 (ready_of 6 hbef rfl)
   obtain e288 := c_7 (ready_of 7 hbef rfl)
   obtain e289 := c_8 (ready_of 8 hbef rfl)
   obtain e290 := c_9 (ready_of 9 hbef rfl)
   have k291 := (hSO148.grown0 hi274)
   refine wpo_loadn (vs := [.int .i64 ((rAt ((mAt ms ((q.run - 1).toNat)).t.slots) ((q.a).toNat)).th), .int .i64 ((rAt ((mAt ms ((q.run - 1).toNat)).t.slots) ((q.a).toNat)).ve), .bool ((rAt ((mAt ms ((q.run - 1).toNat)).t.slots) ((q.a).toNat)).rd), .bool ((rAt ((mAt ms ((q.run - 1).toNat)).t.slots) ((q.a).toNat)).wr), .bool ((rAt ((mAt ms ((q.run - 1).toNat)).t.slots) ((q.a).toNat)).wk)]) rt_29 e290 rfl (range_sub (Own.range wide_rt k291 (rAt_get (show (q.a).toNat < ((mAt ms ((q.run - 1).toNat)).t.slots).length by omega))) 0 5 rfl) rfl ?_
   exact wpo_nil ⟨B158, hi274, e275, e276, e277, e278, e279, c_0, c_1, c_2, c_3, c_4, c_5, c_6, c_7, c_8, c_9, fun _ => rfl, c_11⟩
  refine preL_cons (fun S F w292 hS hbef hcl hI => ?_) ?_
  ·
   obtain ⟨B158, hi293, e294, e295, e296, e297, e298, c_0, c_1, c_2, c_3, c_4, c_5, c_6, c_7, c_8, c_9, c_10, c_11⟩ := hI
   have hb299 := KeepsI.low hb109 hi293
   refine wpo_alloc (cs := #[.int .i64 0, .int .i64 0, .bool false, .bool false, .bool false]) zt_29 rfl rfl ?_
   intro B300 w301 hN302
   have hlB300 := hN_geI hN302 hb299
   have k303 := (k151.grown0 hi293)
   have lt_B_B300 := hN_gtl hN302 (k303).lt
   have k304 := ((hN103.blk.grown0 hg108).grown0 hi293)
   have lt_B101_B300 := hN_gtl hN302 (k304).lt
   have k305 := (hSO148.grown0 hi293)
   have lt_S145_B300 := hN_gtl hN302 (k305).lt
   have hb306 := KeepsI.low hb299 hN302.grw
   exact wpo_nil ⟨B300, (low0 hi293 hN302.grw), e294, e295, e296, e297, e298, c_0, c_1, c_2, c_3, c_4, c_5, c_6, c_7, c_8, c_9, c_10, fun _ => ⟨rfl, hlB300, hN302.blk, lt_B_B300, lt_B101_B300, lt_S145_B300, (Nat.le_trans hi293.size (Nat.le_of_eq hN302.eq.symm))⟩⟩
  exact preL_nil
 ·
  intro S F w307 hall hI
  obtain ⟨B158, hi308, e309, e310, e311, e312, e313, c_0, c_1, c_2, c_3, c_4, c_5, c_6, c_7, c_8, c_9, c_10, c_11⟩ := hI
  have hb314 := KeepsI.low hb109 hi308
  obtain e315 := c_0 (hall 0 (by decide))
  obtain e316 := c_1 (hall 1 (by decide))
  obtain e317 := c_2 (hall 2 (by decide))
  obtain e318 := c_3 (hall 3 (by decide))
  obtain e319 := c_4 (hall 4 (by decide))
  obtain e320 := c_5 (hall 5 (by decide))
  obtain e321 := c_6 (hall 6 (by decide))
  obtain e322 := c_7 (hall 7 (by decide))
  obtain e323 := c_8 (hall 8 (by decide))
  obtain e324 := c_9 (hall 9 (by decide))
  obtain e325 := c_10 (hall 10 (by decide))
  obtain ⟨e326, hlB158, kb_B158, lt_B_B158, lt_B101_B158, lt_S145_B158, hk_B158⟩ := c_11 (hall 11 (by decide))
  refine wpo_storen (vs := [.int .i64 ((rAt ((mAt ms ((q.run - 1).toNat)).t.slots) ((q.a).toNat)).th), .int .i64 ((rAt ((mAt ms ((q.run - 1).toNat)).t.slots) ((q.a).toNat)).ve), .bool ((rAt ((mAt ms ((q.run - 1).toNat)).t.slots) ((q.a).toNat)).rd), .bool ((rAt ((mAt ms ((q.run - 1).toNat)).t.slots) ((q.a).toNat)).wr), .bool ((rAt ((mAt ms ((q.run - 1).toNat)).t.slots) ((q.a).toNat)).wk)]) (cs' := #[.int .i64 ((rAt ((mAt ms ((q.run - 1).toNat)).t.slots) ((q.a).toNat)).th), .int .i64 ((rAt ((mAt ms ((q.run - 1).toNat)).t.slots) ((q.a).toNat)).ve), .bool ((rAt ((mAt ms ((q.run - 1).toNat)).t.slots) ((q.a).toNat)).rd), .bool ((rAt ((mAt ms ((q.run - 1).toNat)).t.slots) ((q.a).toNat)).wr), .bool ((rAt ((mAt ms ((q.run - 1).toNat)).t.slots) ((q.a).toNat)).wk)]) rt_29 e326 e325 rfl (by simp [Value.oneCell']) kb_B158 (Nat.le_of_ble_eq_true rfl) rfl ?_
  intro w327 hS328
  have hb329 := KeepsI.new hb314 hS328.grw (by omega)
  refine wpo_nil ?_
  refine thn_n ?_
  refine wpf_seq ?_
  refine wpf_block ?_
  refine wpf_seq_region ?_
  refine wpo_move (v := .int .i64 (check1 (tabT ms) q)) e313 rfl ?_
  refine wpo_lss (q := decide (check1 (tabT ms) q < 0)) rfl rfl rfl rfl ?_
  refine wpo_assign (v := .bool (decide (check1 (tabT ms) q < 0))) rfl rfl ?_
  refine wpo_nil ?_
  refine wpf_cond rfl (fun h330 => ?_) (fun h330 => ?_)
  ·
   have h331 := of_decide_eq_true h330
   refine wpf_skip ?_
   refine blk_n ?_
   refine thn_n ?_
   refine wpf_seq_region ?_
   refine wpo_move (v := .slice (some ⟨B, 0, none⟩) ms.length cap) e309 rfl ?_
   refine wpo_fieldAddr (o' := 1) fo_76_1 e310 rfl rfl ?_
   have k332 := (((hN103.blk.grown0 hg108).grown0 hi308).grown hS328.grw (some_ne (by omega)))
   refine wpo_load1 (v := .int .i64 q.run) ot_3 rfl (k332.cell rfl) rfl ?_
   refine wpo_sub (c := q.run - 1) rfl rfl (by omega) (by omega) (by omega) rfl ?_
   refine wpo_move (v := .int .i64 (check1 (tabT ms) q)) e313 rfl ?_
   refine wpo_indexAddr (o' := (q.run - 1).toNat * 8) es_54 rfl rfl (by omega) (by omega) (by omega) rfl ?_
   refine wpo_fieldAddr (o' := (q.run - 1).toNat * 8 + 4) fo_45_3 rfl rfl rfl ?_
   have k333 := ((k151.grown0 hi308).grown hS328.grw (some_ne (by omega)))
   have hRO337 := (RowsO.ge (RowsO.low hRO144 hi308) hS328.grw hH (by omega))
   refine wpo_store1O (g := MTh.cells) (j := 4) (z := (mAt ms ((q.run - 1).toNat))) (z' := (⟨⟨(mAt ms ((q.run - 1).toNat)).t.kind, ((mAt ms ((q.run - 1).toNat)).t.lab), (mAt ms ((q.run - 1).toNat)).t.ve, check1 (tabT ms) q, (mAt ms ((q.run - 1).toNat)).t.slots, (mAt ms ((q.run - 1).toNat)).t.queue, (mAt ms ((q.run - 1).toNat)).t.to⟩, (mAt ms ((q.run - 1).toNat)).sa, (mAt ms ((q.run - 1).toNat)).sc, (mAt ms ((q.run - 1).toNat)).qa, (mAt ms ((q.run - 1).toNat)).qc⟩ : MTh)) (v := .int .i64 (check1 (tabT ms) q)) ot_3 rfl rfl rfl wide_mth k333 (mAt_get (show (q.run - 1).toNat < ms.length by omega)) (by omega) rfl rfl ?_
   intro w334 hO335 hg336
   have hb338 := KeepsI.own hb329 hg336 k333 (by decide) (by omega) (by omega)
   have hRO339 : RowsO 29 3 lo w334 (ms.set (q.run - 1).toNat (⟨⟨(mAt ms ((q.run - 1).toNat)).t.kind, ((mAt ms ((q.run - 1).toNat)).t.lab), (mAt ms ((q.run - 1).toNat)).t.ve, check1 (tabT ms) q, (mAt ms ((q.run - 1).toNat)).t.slots, (mAt ms ((q.run - 1).toNat)).t.queue, (mAt ms ((q.run - 1).toNat)).t.to⟩, (mAt ms ((q.run - 1).toNat)).sa, (mAt ms ((q.run - 1).toNat)).sc, (mAt ms ((q.run - 1).toNat)).qa, (mAt ms ((q.run - 1).toNat)).qc⟩ : MTh)) := RowsO.set (RowsO.own hRO337 hg336 k333 (by decide) (by decide)) (show (q.run - 1).toNat < ms.length by omega) ⟨rfl, rfl, rfl⟩ ⟨rfl, rfl, rfl⟩
   refine wpo_nil ?_
   refine wpf_seq_region ?_
   refine wpo_move (v := .slice (some ⟨B, 0, none⟩) ms.length cap) e309 rfl ?_
   refine wpo_move (v := .int .i64 (check1 (tabT ms) q)) e313 rfl ?_
   refine wpo_assign (v := .slice (some ⟨B, 0, none⟩) ms.length cap) rfl rfl ?_
   refine wpo_assign (v := .int .i64 (check1 (tabT ms) q)) rfl rfl ?_
   refine wpo_nil ?_
   refine wpf_ret ?_
   have hf : doCall (tabT ms) q = (tabT (ms.set (q.run - 1).toNat (⟨⟨(mAt ms ((q.run - 1).toNat)).t.kind, ((mAt ms ((q.run - 1).toNat)).t.lab), (mAt ms ((q.run - 1).toNat)).t.ve, check1 (tabT ms) q, (mAt ms ((q.run - 1).toNat)).t.slots, (mAt ms ((q.run - 1).toNat)).t.queue, (mAt ms ((q.run - 1).toNat)).t.to⟩, (mAt ms ((q.run - 1).toNat)).sa, (mAt ms ((q.run - 1).toNat)).sc, (mAt ms ((q.run - 1).toNat)).qa, (mAt ms ((q.run - 1).toNat)).qc⟩ : MTh)), check1 (tabT ms) q) := do_neg h330 rfl
   exact ⟨.tuple #[.slice (some ⟨B, 0, none⟩) ms.length cap, .int .i64 (check1 (tabT ms) q)], res2 rfl rfl rfl, ms.set (q.run - 1).toNat (⟨⟨(mAt ms ((q.run - 1).toNat)).t.kind, ((mAt ms ((q.run - 1).toNat)).t.lab), (mAt ms ((q.run - 1).toNat)).t.ve, check1 (tabT ms) q, (mAt ms ((q.run - 1).toNat)).t.slots, (mAt ms ((q.run - 1).toNat)).t.queue, (mAt ms ((q.run - 1).toNat)).t.to⟩, (mAt ms ((q.run - 1).toNat)).sa, (mAt ms ((q.run - 1).toNat)).sc, (mAt ms ((q.run - 1).toNat)).qa, (mAt ms ((q.run - 1).toNat)).qc⟩ : MTh), by rw [hf], by first | omega | (simp only [List.length_set, putT_len]; try omega), hO335, hRO339, by rw [hf], hb338⟩
  ·
   have h340 := of_decide_eq_false h330
   refine wpf_seq_region ?_
   refine wpo_fieldAddr (o' := 0) fo_76_0 e310 rfl rfl ?_
   have k341 := (((hN103.blk.grown0 hg108).grown0 hi308).grown hS328.grw (some_ne (by omega)))
   refine wpo_load1 (v := .int .i64 q.kind) ot_3 rfl (k341.cell rfl) rfl ?_
   refine wpo_eql (q := decide (q.kind = 3)) rfl rfl rfl rfl ?_
   refine wpo_assign (v := .bool (decide (q.kind = 3))) rfl rfl ?_
   refine wpo_nil ?_
   refine wpf_cond rfl (fun h342 => ?_) (fun h342 => ?_)
   ·
    have h343 := of_decide_eq_true h342
    refine wpf_draw (m := 25) (vals := [(29, .slice (some ⟨B, 0, none⟩) ms.length cap), (30, .pointer (some ⟨B101, 1, none⟩)), (31, .int .i64 q.run), (32, .int .i64 (q.run - 1)), (33, .pointer (some ⟨B, (q.run - 1).toNat * 8, none⟩)), (34, .pointer (some ⟨B, (q.run - 1).toNat * 8 + 5, none⟩)), (35, .slice ((mAt ms ((q.run - 1).toNat)).sa) ((mAt ms ((q.run - 1).toNat)).t.slots.length) ((mAt ms ((q.run - 1).toNat)).sc)), (36, .pointer (some ⟨B101, 3, none⟩)), (37, .int .i64 q.b), (38, .agg #[.int .i64 ((rAt ((mAt ms ((q.run - 1).toNat)).t.slots) ((q.a).toNat)).th), .int .i64 ((rAt ((mAt ms ((q.run - 1).toNat)).t.slots) ((q.a).toNat)).ve), .bool ((rAt ((mAt ms ((q.run - 1).toNat)).t.slots) ((q.a).toNat)).rd), .bool ((rAt ((mAt ms ((q.run - 1).toNat)).t.slots) ((q.a).toNat)).wr), .bool ((rAt ((mAt ms ((q.run - 1).toNat)).t.slots) ((q.a).toNat)).wk)]), (39, .pointer (some ⟨B101, 4, none⟩)), (40, .int .i64 q.n), (41, .int .i64 (q.n % 2)), (42, .bool (decide (q.n % 2 = 1))), (43, .pointer (some ⟨B101, 4, none⟩)), (44, .int .i64 q.n), (45, .int .i64 (q.n / 2)), (46, .int .i64 ((q.n / 2) % 2)), (47, .bool (decide ((q.n / 2) % 2 = 1))), (48, .pointer (some ⟨B101, 4, none⟩)), (49, .int .i64 q.n), (50, .int .i64 (q.n / 4)), (51, .int .i64 ((q.n / 4) % 2)), (52, .bool (decide ((q.n / 4) % 2 = 1))), (53, .agg #[.int .i64 ((l2Less (rAt ((mAt ms ((q.run - 1).toNat)).t.slots) ((q.a).toNat)) (decide (q.n % 2 = 1)) (decide ((q.n / 2) % 2 = 1)) (decide ((q.n / 4) % 2 = 1))).th), .int .i64 ((l2Less (rAt ((mAt ms ((q.run - 1).toNat)).t.slots) ((q.a).toNat)) (decide (q.n % 2 = 1)) (decide ((q.n / 2) % 2 = 1)) (decide ((q.n / 4) % 2 = 1))).ve), .bool ((l2Less (rAt ((mAt ms ((q.run - 1).toNat)).t.slots) ((q.a).toNat)) (decide (q.n % 2 = 1)) (decide ((q.n / 2) % 2 = 1)) (decide ((q.n / 4) % 2 = 1))).rd), .bool ((l2Less (rAt ((mAt ms ((q.run - 1).toNat)).t.slots) ((q.a).toNat)) (decide (q.n % 2 = 1)) (decide ((q.n / 2) % 2 = 1)) (decide ((q.n / 4) % 2 = 1))).wr), .bool ((l2Less (rAt ((mAt ms ((q.run - 1).toNat)).t.slots) ((q.a).toNat)) (decide (q.n % 2 = 1)) (decide ((q.n / 2) % 2 = 1)) (decide ((q.n / 4) % 2 = 1))).wk)])]) (fun w' => w327.grownBy w' none) mixed_ (by kernel_rfl) (grown_drew _) ?_ ?_
    ·
     refine yll_cons rfl (fun w380 hi381 => ?_) ?_
     ·
      have hb382 := KeepsI.low hb329 hi381
      refine wpo_move (v := .slice (some ⟨B, 0, none⟩) ms.length cap) e309 rfl ?_
      exact wpo_nil ⟨rfl, hi381⟩
     refine yll_cons rfl (fun w383 hi384 => ?_) ?_
     ·
      have hb385 := KeepsI.low hb329 hi384
      refine wpo_fieldAddr (o' := 1) fo_76_1 e310 rfl rfl ?_
      exact wpo_nil ⟨rfl, hi384⟩
     refine yll_cons rfl (fun w386 hi387 => ?_) ?_
     ·
      have hb388 := KeepsI.low hb329 hi387
      have k389 := (k341.grown0 hi387)
      refine wpo_load1 (v := .int .i64 q.run) ot_3 rfl (k389.cell rfl) rfl ?_
      exact wpo_nil ⟨rfl, hi387⟩
     refine yll_cons rfl (fun w390 hi391 => ?_) ?_
     ·
      have hb392 := KeepsI.low hb329 hi391
      refine wpo_sub (c := q.run - 1) rfl rfl (by omega) (by omega) (by omega) rfl ?_
      exact wpo_nil ⟨rfl, hi391⟩
     refine yll_cons rfl (fun w393 hi394 => ?_) ?_
     ·
      have hb395 := KeepsI.low hb329 hi394
      refine wpo_indexAddr (o' := (q.run - 1).toNat * 8) es_54 rfl rfl (by omega) (by omega) (by omega) rfl ?_
      exact wpo_nil ⟨rfl, hi394⟩
     refine yll_cons rfl (fun w396 hi397 => ?_) ?_
     ·
      have hb398 := KeepsI.low hb329 hi397
      refine wpo_fieldAddr (o' := (q.run - 1).toNat * 8 + 5) fo_45_4 rfl rfl rfl ?_
      exact wpo_nil ⟨rfl, hi397⟩
     refine yll_cons rfl (fun w399 hi400 => ?_) ?_
     ·
      have hb401 := KeepsI.low hb329 hi400
      have k402 := (((k151.grown0 hi308).grown hS328.grw (some_ne (by omega))).grown0 hi400)
      refine wpo_load1 (v := .slice ((mAt ms ((q.run - 1).toNat)).sa) ((mAt ms ((q.run - 1).toNat)).t.slots.length) ((mAt ms ((q.run - 1).toNat)).sc)) ot_27 rfl ((Own.range wide_mth k402 (mAt_get (show (q.run - 1).toNat < ms.length by omega))) 5 _ rfl) rfl ?_
      exact wpo_nil ⟨rfl, hi400⟩
     refine yll_cons rfl (fun w403 hi404 => ?_) ?_
     ·
      have hb405 := KeepsI.low hb329 hi404
      refine wpo_fieldAddr (o' := 3) fo_76_3 e310 rfl rfl ?_
      exact wpo_nil ⟨rfl, hi404⟩
     refine yll_cons rfl (fun w406 hi407 => ?_) ?_
     ·
      have hb408 := KeepsI.low hb329 hi407
      have k409 := (k341.grown0 hi407)
      refine wpo_load1 (v := .int .i64 q.b) ot_3 rfl (k409.cell rfl) rfl ?_
      exact wpo_nil ⟨rfl, hi407⟩
     refine yll_cons rfl (fun w410 hi411 => ?_) ?_
     ·
      have hb412 := KeepsI.low hb329 hi411
      have k413 := (hS328.blk.grown0 hi411)
      refine wpo_loadn (vs := [.int .i64 ((rAt ((mAt ms ((q.run - 1).toNat)).t.slots) ((q.a).toNat)).th), .int .i64 ((rAt ((mAt ms ((q.run - 1).toNat)).t.slots) ((q.a).toNat)).ve), .bool ((rAt ((mAt ms ((q.run - 1).toNat)).t.slots) ((q.a).toNat)).rd), .bool ((rAt ((mAt ms ((q.run - 1).toNat)).t.slots) ((q.a).toNat)).wr), .bool ((rAt ((mAt ms ((q.run - 1).toNat)).t.slots) ((q.a).toNat)).wk)]) rt_29 e326 rfl (k413.rangeL 0 5 rfl) rfl ?_
      exact wpo_nil ⟨rfl, hi411⟩
     refine yll_cons rfl (fun w414 hi415 => ?_) ?_
     ·
      have hb416 := KeepsI.low hb329 hi415
      refine wpo_fieldAddr (o' := 4) fo_76_4 e310 rfl rfl ?_
      exact wpo_nil ⟨rfl, hi415⟩
     refine yll_cons rfl (fun w417 hi418 => ?_) ?_
     ·
      have hb419 := KeepsI.low hb329 hi418
      have k420 := (k341.grown0 hi418)
      refine wpo_load1 (v := .int .i64 q.n) ot_3 rfl (k420.cell rfl) rfl ?_
      exact wpo_nil ⟨rfl, hi418⟩
     refine yll_cons rfl (fun w421 hi422 => ?_) ?_
     ·
      have hb423 := KeepsI.low hb329 hi422
      refine wpo_rem (c := q.n % 2) rfl rfl (by omega) (by omega) (by omega) rfl rfl ?_
      exact wpo_nil ⟨rfl, hi422⟩
     refine yll_cons rfl (fun w424 hi425 => ?_) ?_
     ·
      have hb426 := KeepsI.low hb329 hi425
      refine wpo_eql (q := decide (q.n % 2 = 1)) rfl rfl rfl rfl ?_
      exact wpo_nil ⟨rfl, hi425⟩
     refine yll_cons rfl (fun w427 hi428 => ?_) ?_
     ·
      have hb429 := KeepsI.low hb329 hi428
      refine wpo_fieldAddr (o' := 4) fo_76_4 e310 rfl rfl ?_
      exact wpo_nil ⟨rfl, hi428⟩
     refine yll_cons rfl (fun w430 hi431 => ?_) ?_
     ·
      have hb432 := KeepsI.low hb329 hi431
      have k433 := (k341.grown0 hi431)
      refine wpo_load1 (v := .int .i64 q.n) ot_3 rfl (k433.cell rfl) rfl ?_
      exact wpo_nil ⟨rfl, hi431⟩
     refine yll_cons rfl (fun w434 hi435 => ?_) ?_
     ·
      have hb436 := KeepsI.low hb329 hi435
      refine wpo_quo (c := q.n / 2) rfl rfl (by omega) (by omega) (by omega) rfl rfl ?_
      exact wpo_nil ⟨rfl, hi435⟩
     refine yll_cons rfl (fun w437 hi438 => ?_) ?_
     ·
      have hb439 := KeepsI.low hb329 hi438
      refine wpo_rem (c := (q.n / 2) % 2) rfl rfl (by omega) (by omega) (by omega) rfl rfl ?_
      exact wpo_nil ⟨rfl, hi438⟩
     refine yll_cons rfl (fun w440 hi441 => ?_) ?_
     ·
      have hb442 := KeepsI.low hb329 hi441
      refine wpo_eql (q := decide ((q.n / 2) % 2 = 1)) rfl rfl rfl rfl ?_
      exact wpo_nil ⟨rfl, hi441⟩
     refine yll_cons rfl (fun w443 hi444 => ?_) ?_
     ·
      have hb445 := KeepsI.low hb329 hi444
      refine wpo_fieldAddr (o' := 4) fo_76_4 e310 rfl rfl ?_
      exact wpo_nil ⟨rfl, hi444⟩
     refine yll_cons rfl (fun w446 hi447 => ?_) ?_
     ·
      have hb448 := KeepsI.low hb329 hi447
      have k449 := (k341.grown0 hi447)
      refine wpo_load1 (v := .int .i64 q.n) ot_3 rfl (k449.cell rfl) rfl ?_
      exact wpo_nil ⟨rfl, hi447⟩
     refine yll_cons rfl (fun w450 hi451 => ?_) ?_
     ·
      have hb452 := KeepsI.low hb329 hi451
      refine wpo_quo (c := q.n / 4) rfl rfl (by omega) (by omega) (by omega) rfl rfl ?_
      exact wpo_nil ⟨rfl, hi451⟩
     refine yll_cons rfl (fun w453 hi454 => ?_) ?_
     ·
      have hb455 := KeepsI.low hb329 hi454
      refine wpo_rem (c := (q.n / 4) % 2) rfl rfl (by omega) (by omega) (by omega) rfl rfl ?_
      exact wpo_nil ⟨rfl, hi454⟩
     refine yll_cons rfl (fun w456 hi457 => ?_) ?_
     ·
      have hb458 := KeepsI.low hb329 hi457
      refine wpo_eql (q := decide ((q.n / 4) % 2 = 1)) rfl rfl rfl rfl ?_
      exact wpo_nil ⟨rfl, hi457⟩
     refine yll_cons rfl (fun w459 hi460 => ?_) ?_
     ·
      have hb461 := KeepsI.low hb329 hi460
      refine wpo_call (vs := [.agg #[.int .i64 ((rAt ((mAt ms ((q.run - 1).toNat)).t.slots) ((q.a).toNat)).th), .int .i64 ((rAt ((mAt ms ((q.run - 1).toNat)).t.slots) ((q.a).toNat)).ve), .bool ((rAt ((mAt ms ((q.run - 1).toNat)).t.slots) ((q.a).toNat)).rd), .bool ((rAt ((mAt ms ((q.run - 1).toNat)).t.slots) ((q.a).toNat)).wr), .bool ((rAt ((mAt ms ((q.run - 1).toNat)).t.slots) ((q.a).toNat)).wk)], .bool (decide (q.n % 2 = 1)), .bool (decide ((q.n / 2) % 2 = 1)), .bool (decide ((q.n / 4) % 2 = 1))]) gf_100 (args_cons rfl (args_cons rfl (args_cons rfl (args_cons rfl args_nil)))) rfl (l2Less_c (rAt ((mAt ms ((q.run - 1).toNat)).t.slots) ((q.a).toNat)) (decide (q.n % 2 = 1)) (decide ((q.n / 2) % 2 = 1)) (decide ((q.n / 4) % 2 = 1)) _) ?_
      rintro _ w462 ⟨rfl, hg463⟩
      have hb464 := KeepsI.low hb461 hg463
      exact wpo_nil ⟨rfl, (grown_trans hi460 hg463)⟩
     exact yll_nil
    ·
     intro w465 hi466
     have hb467 := KeepsI.low hb329 hi466
     refine wpo_indexE es_27 rfl rfl hSa146 (Nat.zero_add _) (by omega) (by omega) rfl ?_
     have k468 := (((hSO148.grown0 hi308).grown hS328.grw (some_ne (by omega))).grown0 hi466)
     have hRO472 := (RowsO.low (RowsO.ge (RowsO.low hRO144 hi308) hS328.grw hH (by omega)) hi466)
     have k473 := (((k151.grown0 hi308).grown hS328.grw (some_ne (by omega))).grown0 hi466)
     refine wpo_storenO (g := Rt.cells) (z' := (l2Less (rAt ((mAt ms ((q.run - 1).toNat)).t.slots) ((q.a).toNat)) (decide (q.n % 2 = 1)) (decide ((q.n / 2) % 2 = 1)) (decide ((q.n / 4) % 2 = 1)))) rt_29 rfl rfl (onec_rt _) wide_rt k468 (by omega) rfl ?_
     intro w469 hO470 hg471
     have hb474 := KeepsI.own hb467 hg471 k468 (by decide) (by omega) (by omega)
     have hRO475 := RowsO.put hRO472 (show (q.run - 1).toNat < ms.length by omega) hSa146 hSl147 k468 rfl hO470 hg471 (by decide)
     have k477 := (k473.grown hg471 (some_ne (by omega)))
     have k476 := own_putT (i := (q.run - 1).toNat) (j := (q.b).toNat) (x := (l2Less (rAt ((mAt ms ((q.run - 1).toNat)).t.slots) ((q.a).toNat)) (decide (q.n % 2 = 1)) (decide ((q.n / 2) % 2 = 1)) (decide ((q.n / 4) % 2 = 1)))) k477 (by omega)
     refine wpo_nil ?_
     refine blk_n ?_
     refine thn_n ?_
     refine wpf_seq_region ?_
     refine wpo_move (v := .slice (some ⟨B, 0, none⟩) ms.length cap) e309 rfl ?_
     refine wpo_fieldAddr (o' := 1) fo_76_1 e310 rfl rfl ?_
     have k478 := ((k341.grown0 hi466).grown hg471 (some_ne (by omega)))
     refine wpo_load1 (v := .int .i64 q.run) ot_3 rfl (k478.cell rfl) rfl ?_
     refine wpo_sub (c := q.run - 1) rfl rfl (by omega) (by omega) (by omega) rfl ?_
     refine wpo_move (v := .int .i64 (check1 (tabT ms) q)) e313 rfl ?_
     refine wpo_indexAddr (o' := (q.run - 1).toNat * 8) es_54 rfl rfl (by omega) (by omega) (by omega) rfl ?_
     refine wpo_fieldAddr (o' := (q.run - 1).toNat * 8 + 4) fo_45_3 rfl rfl rfl ?_
     refine wpo_store1O (g := MTh.cells) (j := 4) (z := (mAt (putT ms ((q.run - 1).toNat) ((q.b).toNat) (l2Less (rAt ((mAt ms ((q.run - 1).toNat)).t.slots) ((q.a).toNat)) (decide (q.n % 2 = 1)) (decide ((q.n / 2) % 2 = 1)) (decide ((q.n / 4) % 2 = 1)))) ((q.run - 1).toNat))) (z' := (⟨⟨(mAt (putT ms ((q.run - 1).toNat) ((q.b).toNat) (l2Less (rAt ((mAt ms ((q.run - 1).toNat)).t.slots) ((q.a).toNat)) (decide (q.n % 2 = 1)) (decide ((q.n / 2) % 2 = 1)) (decide ((q.n / 4) % 2 = 1)))) ((q.run - 1).toNat)).t.kind, ((mAt (putT ms ((q.run - 1).toNat) ((q.b).toNat) (l2Less (rAt ((mAt ms ((q.run - 1).toNat)).t.slots) ((q.a).toNat)) (decide (q.n % 2 = 1)) (decide ((q.n / 2) % 2 = 1)) (decide ((q.n / 4) % 2 = 1)))) ((q.run - 1).toNat)).t.lab), (mAt (putT ms ((q.run - 1).toNat) ((q.b).toNat) (l2Less (rAt ((mAt ms ((q.run - 1).toNat)).t.slots) ((q.a).toNat)) (decide (q.n % 2 = 1)) (decide ((q.n / 2) % 2 = 1)) (decide ((q.n / 4) % 2 = 1)))) ((q.run - 1).toNat)).t.ve, check1 (tabT ms) q, (mAt (putT ms ((q.run - 1).toNat) ((q.b).toNat) (l2Less (rAt ((mAt ms ((q.run - 1).toNat)).t.slots) ((q.a).toNat)) (decide (q.n % 2 = 1)) (decide ((q.n / 2) % 2 = 1)) (decide ((q.n / 4) % 2 = 1)))) ((q.run - 1).toNat)).t.slots, (mAt (putT ms ((q.run - 1).toNat) ((q.b).toNat) (l2Less (rAt ((mAt ms ((q.run - 1).toNat)).t.slots) ((q.a).toNat)) (decide (q.n % 2 = 1)) (decide ((q.n / 2) % 2 = 1)) (decide ((q.n / 4) % 2 = 1)))) ((q.run - 1).toNat)).t.queue, (mAt (putT ms ((q.run - 1).toNat) ((q.b).toNat) (l2Less (rAt ((mAt ms ((q.run - 1).toNat)).t.slots) ((q.a).toNat)) (decide (q.n % 2 = 1)) (decide ((q.n / 2) % 2 = 1)) (decide ((q.n / 4) % 2 = 1)))) ((q.run - 1).toNat)).t.to⟩, (mAt (putT ms ((q.run - 1).toNat) ((q.b).toNat) (l2Less (rAt ((mAt ms ((q.run - 1).toNat)).t.slots) ((q.a).toNat)) (decide (q.n % 2 = 1)) (decide ((q.n / 2) % 2 = 1)) (decide ((q.n / 4) % 2 = 1)))) ((q.run - 1).toNat)).sa, (mAt (putT ms ((q.run - 1).toNat) ((q.b).toNat) (l2Less (rAt ((mAt ms ((q.run - 1).toNat)).t.slots) ((q.a).toNat)) (decide (q.n % 2 = 1)) (decide ((q.n / 2) % 2 = 1)) (decide ((q.n / 4) % 2 = 1)))) ((q.run - 1).toNat)).sc, (mAt (putT ms ((q.run - 1).toNat) ((q.b).toNat) (l2Less (rAt ((mAt ms ((q.run - 1).toNat)).t.slots) ((q.a).toNat)) (decide (q.n % 2 = 1)) (decide ((q.n / 2) % 2 = 1)) (decide ((q.n / 4) % 2 = 1)))) ((q.run - 1).toNat)).qa, (mAt (putT ms ((q.run - 1).toNat) ((q.b).toNat) (l2Less (rAt ((mAt ms ((q.run - 1).toNat)).t.slots) ((q.a).toNat)) (decide (q.n % 2 = 1)) (decide ((q.n / 2) % 2 = 1)) (decide ((q.n / 4) % 2 = 1)))) ((q.run - 1).toNat)).qc⟩ : MTh)) (v := .int .i64 (check1 (tabT ms) q)) ot_3 rfl rfl rfl wide_mth k476 (mAt_get (show (q.run - 1).toNat < (putT ms ((q.run - 1).toNat) ((q.b).toNat) (l2Less (rAt ((mAt ms ((q.run - 1).toNat)).t.slots) ((q.a).toNat)) (decide (q.n % 2 = 1)) (decide ((q.n / 2) % 2 = 1)) (decide ((q.n / 4) % 2 = 1)))).length by (simp only [List.length_set, putT_len]; omega))) (by omega) rfl rfl ?_
     intro w479 hO480 hg481
     have hb482 := KeepsI.own hb474 hg481 k476 (by decide) (by omega) (by omega)
     have hRO483 : RowsO 29 3 lo w479 ((putT ms ((q.run - 1).toNat) ((q.b).toNat) (l2Less (rAt ((mAt ms ((q.run - 1).toNat)).t.slots) ((q.a).toNat)) (decide (q.n % 2 = 1)) (decide ((q.n / 2) % 2 = 1)) (decide ((q.n / 4) % 2 = 1)))).set (q.run - 1).toNat (⟨⟨(mAt (putT ms ((q.run - 1).toNat) ((q.b).toNat) (l2Less (rAt ((mAt ms ((q.run - 1).toNat)).t.slots) ((q.a).toNat)) (decide (q.n % 2 = 1)) (decide ((q.n / 2) % 2 = 1)) (decide ((q.n / 4) % 2 = 1)))) ((q.run - 1).toNat)).t.kind, ((mAt (putT ms ((q.run - 1).toNat) ((q.b).toNat) (l2Less (rAt ((mAt ms ((q.run - 1).toNat)).t.slots) ((q.a).toNat)) (decide (q.n % 2 = 1)) (decide ((q.n / 2) % 2 = 1)) (decide ((q.n / 4) % 2 = 1)))) ((q.run - 1).toNat)).t.lab), (mAt (putT ms ((q.run - 1).toNat) ((q.b).toNat) (l2Less (rAt ((mAt ms ((q.run - 1).toNat)).t.slots) ((q.a).toNat)) (decide (q.n % 2 = 1)) (decide ((q.n / 2) % 2 = 1)) (decide ((q.n / 4) % 2 = 1)))) ((q.run - 1).toNat)).t.ve, check1 (tabT ms) q, (mAt (putT ms ((q.run - 1).toNat) ((q.b).toNat) (l2Less (rAt ((mAt ms ((q.run - 1).toNat)).t.slots) ((q.a).toNat)) (decide (q.n % 2 = 1)) (decide ((q.n / 2) % 2 = 1)) (decide ((q.n / 4) % 2 = 1)))) ((q.run - 1).toNat)).t.slots, (mAt (putT ms ((q.run - 1).toNat) ((q.b).toNat) (l2Less (rAt ((mAt ms ((q.run - 1).toNat)).t.slots) ((q.a).toNat)) (decide (q.n % 2 = 1)) (decide ((q.n / 2) % 2 = 1)) (decide ((q.n / 4) % 2 = 1)))) ((q.run - 1).toNat)).t.queue, (mAt (putT ms ((q.run - 1).toNat) ((q.b).toNat) (l2Less (rAt ((mAt ms ((q.run - 1).toNat)).t.slots) ((q.a).toNat)) (decide (q.n % 2 = 1)) (decide ((q.n / 2) % 2 = 1)) (decide ((q.n / 4) % 2 = 1)))) ((q.run - 1).toNat)).t.to⟩, (mAt (putT ms ((q.run - 1).toNat) ((q.b).toNat) (l2Less (rAt ((mAt ms ((q.run - 1).toNat)).t.slots) ((q.a).toNat)) (decide (q.n % 2 = 1)) (decide ((q.n / 2) % 2 = 1)) (decide ((q.n / 4) % 2 = 1)))) ((q.run - 1).toNat)).sa, (mAt (putT ms ((q.run - 1).toNat) ((q.b).toNat) (l2Less (rAt ((mAt ms ((q.run - 1).toNat)).t.slots) ((q.a).toNat)) (decide (q.n % 2 = 1)) (decide ((q.n / 2) % 2 = 1)) (decide ((q.n / 4) % 2 = 1)))) ((q.run - 1).toNat)).sc, (mAt (putT ms ((q.run - 1).toNat) ((q.b).toNat) (l2Less (rAt ((mAt ms ((q.run - 1).toNat)).t.slots) ((q.a).toNat)) (decide (q.n % 2 = 1)) (decide ((q.n / 2) % 2 = 1)) (decide ((q.n / 4) % 2 = 1)))) ((q.run - 1).toNat)).qa, (mAt (putT ms ((q.run - 1).toNat) ((q.b).toNat) (l2Less (rAt ((mAt ms ((q.run - 1).toNat)).t.slots) ((q.a).toNat)) (decide (q.n % 2 = 1)) (decide ((q.n / 2) % 2 = 1)) (decide ((q.n / 4) % 2 = 1)))) ((q.run - 1).toNat)).qc⟩ : MTh)) := RowsO.set (RowsO.own hRO475 hg481 k476 (by decide) (by decide)) (show (q.run - 1).toNat < (putT ms ((q.run - 1).toNat) ((q.b).toNat) (l2Less (rAt ((mAt ms ((q.run - 1).toNat)).t.slots) ((q.a).toNat)) (decide (q.n % 2 = 1)) (decide ((q.n / 2) % 2 = 1)) (decide ((q.n / 4) % 2 = 1)))).length by (simp only [List.length_set, putT_len]; omega)) ⟨rfl, rfl, rfl⟩ ⟨rfl, rfl, rfl⟩
     refine wpo_nil ?_
     refine wpf_seq_region ?_
     refine wpo_move (v := .slice (some ⟨B, 0, none⟩) ms.length cap) e309 rfl ?_
     refine wpo_move (v := .int .i64 (check1 (tabT ms) q)) e313 rfl ?_
     refine wpo_assign (v := .slice (some ⟨B, 0, none⟩) ms.length cap) rfl rfl ?_
     refine wpo_assign (v := .int .i64 (check1 (tabT ms) q)) rfl rfl ?_
     refine wpo_nil ?_
     refine wpf_ret ?_
     have hf : doCall (tabT ms) q = (tabT ((putT ms ((q.run - 1).toNat) ((q.b).toNat) (l2Less (rAt ((mAt ms ((q.run - 1).toNat)).t.slots) ((q.a).toNat)) (decide (q.n % 2 = 1)) (decide ((q.n / 2) % 2 = 1)) (decide ((q.n / 4) % 2 = 1)))).set (q.run - 1).toNat (⟨⟨(mAt (putT ms ((q.run - 1).toNat) ((q.b).toNat) (l2Less (rAt ((mAt ms ((q.run - 1).toNat)).t.slots) ((q.a).toNat)) (decide (q.n % 2 = 1)) (decide ((q.n / 2) % 2 = 1)) (decide ((q.n / 4) % 2 = 1)))) ((q.run - 1).toNat)).t.kind, ((mAt (putT ms ((q.run - 1).toNat) ((q.b).toNat) (l2Less (rAt ((mAt ms ((q.run - 1).toNat)).t.slots) ((q.a).toNat)) (decide (q.n % 2 = 1)) (decide ((q.n / 2) % 2 = 1)) (decide ((q.n / 4) % 2 = 1)))) ((q.run - 1).toNat)).t.lab), (mAt (putT ms ((q.run - 1).toNat) ((q.b).toNat) (l2Less (rAt ((mAt ms ((q.run - 1).toNat)).t.slots) ((q.a).toNat)) (decide (q.n % 2 = 1)) (decide ((q.n / 2) % 2 = 1)) (decide ((q.n / 4) % 2 = 1)))) ((q.run - 1).toNat)).t.ve, check1 (tabT ms) q, (mAt (putT ms ((q.run - 1).toNat) ((q.b).toNat) (l2Less (rAt ((mAt ms ((q.run - 1).toNat)).t.slots) ((q.a).toNat)) (decide (q.n % 2 = 1)) (decide ((q.n / 2) % 2 = 1)) (decide ((q.n / 4) % 2 = 1)))) ((q.run - 1).toNat)).t.slots, (mAt (putT ms ((q.run - 1).toNat) ((q.b).toNat) (l2Less (rAt ((mAt ms ((q.run - 1).toNat)).t.slots) ((q.a).toNat)) (decide (q.n % 2 = 1)) (decide ((q.n / 2) % 2 = 1)) (decide ((q.n / 4) % 2 = 1)))) ((q.run - 1).toNat)).t.queue, (mAt (putT ms ((q.run - 1).toNat) ((q.b).toNat) (l2Less (rAt ((mAt ms ((q.run - 1).toNat)).t.slots) ((q.a).toNat)) (decide (q.n % 2 = 1)) (decide ((q.n / 2) % 2 = 1)) (decide ((q.n / 4) % 2 = 1)))) ((q.run - 1).toNat)).t.to⟩, (mAt (putT ms ((q.run - 1).toNat) ((q.b).toNat) (l2Less (rAt ((mAt ms ((q.run - 1).toNat)).t.slots) ((q.a).toNat)) (decide (q.n % 2 = 1)) (decide ((q.n / 2) % 2 = 1)) (decide ((q.n / 4) % 2 = 1)))) ((q.run - 1).toNat)).sa, (mAt (putT ms ((q.run - 1).toNat) ((q.b).toNat) (l2Less (rAt ((mAt ms ((q.run - 1).toNat)).t.slots) ((q.a).toNat)) (decide (q.n % 2 = 1)) (decide ((q.n / 2) % 2 = 1)) (decide ((q.n / 4) % 2 = 1)))) ((q.run - 1).toNat)).sc, (mAt (putT ms ((q.run - 1).toNat) ((q.b).toNat) (l2Less (rAt ((mAt ms ((q.run - 1).toNat)).t.slots) ((q.a).toNat)) (decide (q.n % 2 = 1)) (decide ((q.n / 2) % 2 = 1)) (decide ((q.n / 4) % 2 = 1)))) ((q.run - 1).toNat)).qa, (mAt (putT ms ((q.run - 1).toNat) ((q.b).toNat) (l2Less (rAt ((mAt ms ((q.run - 1).toNat)).t.slots) ((q.a).toNat)) (decide (q.n % 2 = 1)) (decide ((q.n / 2) % 2 = 1)) (decide ((q.n / 4) % 2 = 1)))) ((q.run - 1).toNat)).qc⟩ : MTh)), check1 (tabT ms) q) := do_copy h330 h342 rfl rfl
     exact ⟨.tuple #[.slice (some ⟨B, 0, none⟩) ms.length cap, .int .i64 (check1 (tabT ms) q)], res2 rfl rfl rfl, (putT ms ((q.run - 1).toNat) ((q.b).toNat) (l2Less (rAt ((mAt ms ((q.run - 1).toNat)).t.slots) ((q.a).toNat)) (decide (q.n % 2 = 1)) (decide ((q.n / 2) % 2 = 1)) (decide ((q.n / 4) % 2 = 1)))).set (q.run - 1).toNat (⟨⟨(mAt (putT ms ((q.run - 1).toNat) ((q.b).toNat) (l2Less (rAt ((mAt ms ((q.run - 1).toNat)).t.slots) ((q.a).toNat)) (decide (q.n % 2 = 1)) (decide ((q.n / 2) % 2 = 1)) (decide ((q.n / 4) % 2 = 1)))) ((q.run - 1).toNat)).t.kind, ((mAt (putT ms ((q.run - 1).toNat) ((q.b).toNat) (l2Less (rAt ((mAt ms ((q.run - 1).toNat)).t.slots) ((q.a).toNat)) (decide (q.n % 2 = 1)) (decide ((q.n / 2) % 2 = 1)) (decide ((q.n / 4) % 2 = 1)))) ((q.run - 1).toNat)).t.lab), (mAt (putT ms ((q.run - 1).toNat) ((q.b).toNat) (l2Less (rAt ((mAt ms ((q.run - 1).toNat)).t.slots) ((q.a).toNat)) (decide (q.n % 2 = 1)) (decide ((q.n / 2) % 2 = 1)) (decide ((q.n / 4) % 2 = 1)))) ((q.run - 1).toNat)).t.ve, check1 (tabT ms) q, (mAt (putT ms ((q.run - 1).toNat) ((q.b).toNat) (l2Less (rAt ((mAt ms ((q.run - 1).toNat)).t.slots) ((q.a).toNat)) (decide (q.n % 2 = 1)) (decide ((q.n / 2) % 2 = 1)) (decide ((q.n / 4) % 2 = 1)))) ((q.run - 1).toNat)).t.slots, (mAt (putT ms ((q.run - 1).toNat) ((q.b).toNat) (l2Less (rAt ((mAt ms ((q.run - 1).toNat)).t.slots) ((q.a).toNat)) (decide (q.n % 2 = 1)) (decide ((q.n / 2) % 2 = 1)) (decide ((q.n / 4) % 2 = 1)))) ((q.run - 1).toNat)).t.queue, (mAt (putT ms ((q.run - 1).toNat) ((q.b).toNat) (l2Less (rAt ((mAt ms ((q.run - 1).toNat)).t.slots) ((q.a).toNat)) (decide (q.n % 2 = 1)) (decide ((q.n / 2) % 2 = 1)) (decide ((q.n / 4) % 2 = 1)))) ((q.run - 1).toNat)).t.to⟩, (mAt (putT ms ((q.run - 1).toNat) ((q.b).toNat) (l2Less (rAt ((mAt ms ((q.run - 1).toNat)).t.slots) ((q.a).toNat)) (decide (q.n % 2 = 1)) (decide ((q.n / 2) % 2 = 1)) (decide ((q.n / 4) % 2 = 1)))) ((q.run - 1).toNat)).sa, (mAt (putT ms ((q.run - 1).toNat) ((q.b).toNat) (l2Less (rAt ((mAt ms ((q.run - 1).toNat)).t.slots) ((q.a).toNat)) (decide (q.n % 2 = 1)) (decide ((q.n / 2) % 2 = 1)) (decide ((q.n / 4) % 2 = 1)))) ((q.run - 1).toNat)).sc, (mAt (putT ms ((q.run - 1).toNat) ((q.b).toNat) (l2Less (rAt ((mAt ms ((q.run - 1).toNat)).t.slots) ((q.a).toNat)) (decide (q.n % 2 = 1)) (decide ((q.n / 2) % 2 = 1)) (decide ((q.n / 4) % 2 = 1)))) ((q.run - 1).toNat)).qa, (mAt (putT ms ((q.run - 1).toNat) ((q.b).toNat) (l2Less (rAt ((mAt ms ((q.run - 1).toNat)).t.slots) ((q.a).toNat)) (decide (q.n % 2 = 1)) (decide ((q.n / 2) % 2 = 1)) (decide ((q.n / 4) % 2 = 1)))) ((q.run - 1).toNat)).qc⟩ : MTh), by rw [hf], by first | omega | (simp only [List.length_set, putT_len]; try omega), hO480, hRO483, by rw [hf], hb482⟩
   ·
    have h484 := of_decide_eq_false h342
    refine wpf_seq_region ?_
    refine wpo_move (v := .slice (some ⟨B, 0, none⟩) ms.length cap) e309 rfl ?_
    refine wpo_loadn (vs := [.int .i64 ((rAt ((mAt ms ((q.run - 1).toNat)).t.slots) ((q.a).toNat)).th), .int .i64 ((rAt ((mAt ms ((q.run - 1).toNat)).t.slots) ((q.a).toNat)).ve), .bool ((rAt ((mAt ms ((q.run - 1).toNat)).t.slots) ((q.a).toNat)).rd), .bool ((rAt ((mAt ms ((q.run - 1).toNat)).t.slots) ((q.a).toNat)).wr), .bool ((rAt ((mAt ms ((q.run - 1).toNat)).t.slots) ((q.a).toNat)).wk)]) rt_29 e326 rfl (hS328.blk.rangeL 0 5 rfl) rfl ?_
    have hRO485 := (RowsO.ge (RowsO.low hRO144 hi308) hS328.grw hH (by omega))
    have k486 := ((k151.grown0 hi308).grown hS328.grw (some_ne (by omega)))
    refine wpo_call (vs := [.slice (some ⟨B, 0, none⟩) ms.length cap, .agg #[.int .i64 ((rAt ((mAt ms ((q.run - 1).toNat)).t.slots) ((q.a).toNat)).th), .int .i64 ((rAt ((mAt ms ((q.run - 1).toNat)).t.slots) ((q.a).toNat)).ve), .bool ((rAt ((mAt ms ((q.run - 1).toNat)).t.slots) ((q.a).toNat)).rd), .bool ((rAt ((mAt ms ((q.run - 1).toNat)).t.slots) ((q.a).toNat)).wr), .bool ((rAt ((mAt ms ((q.run - 1).toNat)).t.slots) ((q.a).toNat)).wk)]]) gf_120 (args_cons rfl (args_cons rfl args_nil)) rfl (l3Live_c (rAt ((mAt ms ((q.run - 1).toNat)).t.slots) ((q.a).toNat)) (by omega) _ ms _ _ (RowsO.tab hRO485 k486) hTL (by omega)) ?_
    rintro _ w487 ⟨rfl, hg488⟩
    have hb489 := KeepsI.low hb329 hg488
    refine wpo_assign (v := .bool (live (tabT ms) (rAt ((mAt ms ((q.run - 1).toNat)).t.slots) ((q.a).toNat)))) rfl rfl ?_
    refine wpo_nil ?_
    refine wpf_cond rfl (fun h490 => ?_) (fun h490 => ?_)
    ·
     refine wpf_seq_region ?_
     refine wpo_move (v := .slice (some ⟨B, 0, none⟩) ms.length cap) e309 rfl ?_
     have k491 := (k341.grown0 hg488)
     refine wpo_loadn (vs := [.int .i64 q.kind, .int .i64 q.run, .int .i64 q.a, .int .i64 q.b, .int .i64 q.n]) rt_76 e310 rfl (k491.rangeL 0 5 rfl) rfl ?_
     have k492 := (hS328.blk.grown0 hg488)
     refine wpo_loadn (vs := [.int .i64 ((rAt ((mAt ms ((q.run - 1).toNat)).t.slots) ((q.a).toNat)).th), .int .i64 ((rAt ((mAt ms ((q.run - 1).toNat)).t.slots) ((q.a).toNat)).ve), .bool ((rAt ((mAt ms ((q.run - 1).toNat)).t.slots) ((q.a).toNat)).rd), .bool ((rAt ((mAt ms ((q.run - 1).toNat)).t.slots) ((q.a).toNat)).wr), .bool ((rAt ((mAt ms ((q.run - 1).toNat)).t.slots) ((q.a).toNat)).wk)]) rt_29 e326 rfl (k492.rangeL 0 5 rfl) rfl ?_
     have k493 := (k486.grown0 hg488)
     have k494 := (((hSO148.grown0 hi308).grown hS328.grw (some_ne (by omega))).grown0 hg488)
     have hRO495 := (RowsO.low hRO485 hg488)
     have hF496 := farOk_m hp h330 h342 h490
     have hth1 := hF496.th
     rw [tabT_len] at hth1
     refine wpo_call (vs := [.slice (some ⟨B, 0, none⟩) ms.length cap, .agg #[.int .i64 q.kind, .int .i64 q.run, .int .i64 q.a, .int .i64 q.b, .int .i64 q.n], .agg #[.int .i64 ((rAt ((mAt ms ((q.run - 1).toNat)).t.slots) ((q.a).toNat)).th), .int .i64 ((rAt ((mAt ms ((q.run - 1).toNat)).t.slots) ((q.a).toNat)).ve), .bool ((rAt ((mAt ms ((q.run - 1).toNat)).t.slots) ((q.a).toNat)).rd), .bool ((rAt ((mAt ms ((q.run - 1).toNat)).t.slots) ((q.a).toNat)).wr), .bool ((rAt ((mAt ms ((q.run - 1).toNat)).t.slots) ((q.a).toNat)).wk)]]) gf_121 (args_cons rfl (args_cons rfl (args_cons rfl args_nil))) rfl (l12Far_c q (rAt ((mAt ms ((q.run - 1).toNat)).t.slots) ((q.a).toNat)) lo B cap ms _ k493 hRO495 hlo _ hH hBlt hb489.size hF496) ?_
     rintro _ w503 ⟨ms497, rfl, hl498, hO499, hRO500, htab501, hK502⟩
     have hb504 := KeepsI.trans hb489 hK502
     have hT505 : tableOk (tabT ms497) = true := by rw [htab501]; exact (far_ok hF496).1
     have hTL506 := TabLen.ok hT505
     have hml507 := tab_len hT505
     refine wpo_assign (v := .int .i64 ((far (tabT ms) q (rAt ((mAt ms ((q.run - 1).toNat)).t.slots) ((q.a).toNat))).2)) rfl rfl ?_
     refine wpo_nil ?_
     refine wpf_seq_region ?_
     refine wpo_move (v := .slice (some ⟨B, 0, none⟩) ms497.length cap) (e309.trans (congrArg (fun n : Nat => Value.slice (some ⟨B, 0, none⟩) n cap) hl498.symm)) rfl ?_
     refine wpo_fieldAddr (o' := 1) fo_76_1 e310 rfl rfl ?_
     have k508 := (Blk.keepsI k491 hK502 (Or.inr (Or.inr (by decide))))
     refine wpo_load1 (v := .int .i64 q.run) ot_3 rfl (k508.cell rfl) rfl ?_
     refine wpo_fieldAddr (o' := 0) fo_29_0 e326 rfl rfl ?_
     have k509 := (Blk.keepsI k492 hK502 (by omega))
     refine wpo_load1 (v := .int .i64 ((rAt ((mAt ms ((q.run - 1).toNat)).t.slots) ((q.a).toNat)).th)) ot_3 rfl (k509.cell rfl) rfl ?_
     refine wpo_call (vs := [.slice (some ⟨B, 0, none⟩) ms497.length cap, .int .i64 q.run, .int .i64 ((rAt ((mAt ms ((q.run - 1).toNat)).t.slots) ((q.a).toNat)).th)]) gf_122 (args_cons rfl (args_cons rfl (args_cons rfl args_nil))) rfl (l11Sees_c q.run ((rAt ((mAt ms ((q.run - 1).toNat)).t.slots) ((q.a).toNat)).th) _ ms497 _ _ (RowsO.tab hRO500 hO499) hTL506 (by omega) hT505 (by omega) (by omega)) ?_
     rintro _ w510 ⟨rfl, hg511⟩
     have hb512 := KeepsI.low hb504 hg511
     refine wpo_not (b' := !sees (tabT ms497) q.run ((rAt ((mAt ms ((q.run - 1).toNat)).t.slots) ((q.a).toNat)).th)) rfl rfl rfl ?_
     refine wpo_nil ?_
     refine wpf_cond rfl (fun h513 => ?_) (fun h513 => ?_)
     ·
      have h514 := nt_t h513
      refine wpf_region ?_
      refine wpo_assign (v := .int .i64 0) rfl rfl ?_
      refine wpo_nil ?_
      refine blk_n ?_
      refine thn_n ?_
      refine wpf_seq_region ?_
      refine wpo_move (v := .slice (some ⟨B, 0, none⟩) ms497.length cap) (e309.trans (congrArg (fun n : Nat => Value.slice (some ⟨B, 0, none⟩) n cap) hl498.symm)) rfl ?_
      refine wpo_fieldAddr (o' := 1) fo_76_1 e310 rfl rfl ?_
      have k515 := (k508.grown0 hg511)
      refine wpo_load1 (v := .int .i64 q.run) ot_3 rfl (k515.cell rfl) rfl ?_
      refine wpo_sub (c := q.run - 1) rfl rfl (by omega) (by omega) (by omega) rfl ?_
      refine wpo_move (v := .int .i64 0) rfl rfl ?_
      refine wpo_indexAddr (o' := (q.run - 1).toNat * 8) es_54 rfl rfl (by omega) (by omega) (by omega) rfl ?_
      refine wpo_fieldAddr (o' := (q.run - 1).toNat * 8 + 4) fo_45_3 rfl rfl rfl ?_
      have k516 := (hO499.grown0 hg511)
      have hRO520 := (RowsO.low hRO500 hg511)
      refine wpo_store1O (g := MTh.cells) (j := 4) (z := (mAt ms497 ((q.run - 1).toNat))) (z' := (⟨⟨(mAt ms497 ((q.run - 1).toNat)).t.kind, ((mAt ms497 ((q.run - 1).toNat)).t.lab), (mAt ms497 ((q.run - 1).toNat)).t.ve, 0, (mAt ms497 ((q.run - 1).toNat)).t.slots, (mAt ms497 ((q.run - 1).toNat)).t.queue, (mAt ms497 ((q.run - 1).toNat)).t.to⟩, (mAt ms497 ((q.run - 1).toNat)).sa, (mAt ms497 ((q.run - 1).toNat)).sc, (mAt ms497 ((q.run - 1).toNat)).qa, (mAt ms497 ((q.run - 1).toNat)).qc⟩ : MTh)) (v := .int .i64 0) ot_3 rfl rfl rfl wide_mth k516 (mAt_get (show (q.run - 1).toNat < ms497.length by omega)) (by omega) rfl rfl ?_
      intro w517 hO518 hg519
      have hb521 := KeepsI.own hb512 hg519 k516 (by decide) (by omega) (by omega)
      have hRO522 : RowsO 29 3 lo w517 (ms497.set (q.run - 1).toNat (⟨⟨(mAt ms497 ((q.run - 1).toNat)).t.kind, ((mAt ms497 ((q.run - 1).toNat)).t.lab), (mAt ms497 ((q.run - 1).toNat)).t.ve, 0, (mAt ms497 ((q.run - 1).toNat)).t.slots, (mAt ms497 ((q.run - 1).toNat)).t.queue, (mAt ms497 ((q.run - 1).toNat)).t.to⟩, (mAt ms497 ((q.run - 1).toNat)).sa, (mAt ms497 ((q.run - 1).toNat)).sc, (mAt ms497 ((q.run - 1).toNat)).qa, (mAt ms497 ((q.run - 1).toNat)).qc⟩ : MTh)) := RowsO.set (RowsO.own hRO520 hg519 k516 (by decide) (by decide)) (show (q.run - 1).toNat < ms497.length by omega) ⟨rfl, rfl, rfl⟩ ⟨rfl, rfl, rfl⟩
      refine wpo_nil ?_
      refine wpf_seq_region ?_
      refine wpo_move (v := .slice (some ⟨B, 0, none⟩) ms497.length cap) (e309.trans (congrArg (fun n : Nat => Value.slice (some ⟨B, 0, none⟩) n cap) hl498.symm)) rfl ?_
      refine wpo_move (v := .int .i64 0) rfl rfl ?_
      refine wpo_assign (v := .slice (some ⟨B, 0, none⟩) ms497.length cap) rfl rfl ?_
      refine wpo_assign (v := .int .i64 0) rfl rfl ?_
      refine wpo_nil ?_
      refine wpf_ret ?_
      have hf : doCall (tabT ms) q = (tabT (ms497.set (q.run - 1).toNat (⟨⟨(mAt ms497 ((q.run - 1).toNat)).t.kind, ((mAt ms497 ((q.run - 1).toNat)).t.lab), (mAt ms497 ((q.run - 1).toNat)).t.ve, 0, (mAt ms497 ((q.run - 1).toNat)).t.slots, (mAt ms497 ((q.run - 1).toNat)).t.queue, (mAt ms497 ((q.run - 1).toNat)).t.to⟩, (mAt ms497 ((q.run - 1).toNat)).sa, (mAt ms497 ((q.run - 1).toNat)).sc, (mAt ms497 ((q.run - 1).toNat)).qa, (mAt ms497 ((q.run - 1).toNat)).qc⟩ : MTh)), 0) := do_blind h330 h342 h490 htab501 h514 rfl
      exact ⟨.tuple #[.slice (some ⟨B, 0, none⟩) ms497.length cap, .int .i64 0], res2 rfl rfl rfl, ms497.set (q.run - 1).toNat (⟨⟨(mAt ms497 ((q.run - 1).toNat)).t.kind, ((mAt ms497 ((q.run - 1).toNat)).t.lab), (mAt ms497 ((q.run - 1).toNat)).t.ve, 0, (mAt ms497 ((q.run - 1).toNat)).t.slots, (mAt ms497 ((q.run - 1).toNat)).t.queue, (mAt ms497 ((q.run - 1).toNat)).t.to⟩, (mAt ms497 ((q.run - 1).toNat)).sa, (mAt ms497 ((q.run - 1).toNat)).sc, (mAt ms497 ((q.run - 1).toNat)).qa, (mAt ms497 ((q.run - 1).toNat)).qc⟩ : MTh), by rw [hf, hl498], by first | omega | (simp only [List.length_set, putT_len]; try omega), hO518, hRO522, by rw [hf], hb521⟩
     ·
      have h523 := nt_f h513
      refine wpf_skip ?_
      refine blk_n ?_
      refine thn_n ?_
      refine wpf_seq_region ?_
      refine wpo_move (v := .slice (some ⟨B, 0, none⟩) ms497.length cap) (e309.trans (congrArg (fun n : Nat => Value.slice (some ⟨B, 0, none⟩) n cap) hl498.symm)) rfl ?_
      refine wpo_fieldAddr (o' := 1) fo_76_1 e310 rfl rfl ?_
      have k524 := (k508.grown0 hg511)
      refine wpo_load1 (v := .int .i64 q.run) ot_3 rfl (k524.cell rfl) rfl ?_
      refine wpo_sub (c := q.run - 1) rfl rfl (by omega) (by omega) (by omega) rfl ?_
      refine wpo_move (v := .int .i64 ((far (tabT ms) q (rAt ((mAt ms ((q.run - 1).toNat)).t.slots) ((q.a).toNat))).2)) rfl rfl ?_
      refine wpo_indexAddr (o' := (q.run - 1).toNat * 8) es_54 rfl rfl (by omega) (by omega) (by omega) rfl ?_
      refine wpo_fieldAddr (o' := (q.run - 1).toNat * 8 + 4) fo_45_3 rfl rfl rfl ?_
      have k525 := (hO499.grown0 hg511)
      have hRO529 := (RowsO.low hRO500 hg511)
      refine wpo_store1O (g := MTh.cells) (j := 4) (z := (mAt ms497 ((q.run - 1).toNat))) (z' := (⟨⟨(mAt ms497 ((q.run - 1).toNat)).t.kind, ((mAt ms497 ((q.run - 1).toNat)).t.lab), (mAt ms497 ((q.run - 1).toNat)).t.ve, (far (tabT ms) q (rAt ((mAt ms ((q.run - 1).toNat)).t.slots) ((q.a).toNat))).2, (mAt ms497 ((q.run - 1).toNat)).t.slots, (mAt ms497 ((q.run - 1).toNat)).t.queue, (mAt ms497 ((q.run - 1).toNat)).t.to⟩, (mAt ms497 ((q.run - 1).toNat)).sa, (mAt ms497 ((q.run - 1).toNat)).sc, (mAt ms497 ((q.run - 1).toNat)).qa, (mAt ms497 ((q.run - 1).toNat)).qc⟩ : MTh)) (v := .int .i64 ((far (tabT ms) q (rAt ((mAt ms ((q.run - 1).toNat)).t.slots) ((q.a).toNat))).2)) ot_3 rfl rfl rfl wide_mth k525 (mAt_get (show (q.run - 1).toNat < ms497.length by omega)) (by omega) rfl rfl ?_
      intro w526 hO527 hg528
      have hb530 := KeepsI.own hb512 hg528 k525 (by decide) (by omega) (by omega)
      have hRO531 : RowsO 29 3 lo w526 (ms497.set (q.run - 1).toNat (⟨⟨(mAt ms497 ((q.run - 1).toNat)).t.kind, ((mAt ms497 ((q.run - 1).toNat)).t.lab), (mAt ms497 ((q.run - 1).toNat)).t.ve, (far (tabT ms) q (rAt ((mAt ms ((q.run - 1).toNat)).t.slots) ((q.a).toNat))).2, (mAt ms497 ((q.run - 1).toNat)).t.slots, (mAt ms497 ((q.run - 1).toNat)).t.queue, (mAt ms497 ((q.run - 1).toNat)).t.to⟩, (mAt ms497 ((q.run - 1).toNat)).sa, (mAt ms497 ((q.run - 1).toNat)).sc, (mAt ms497 ((q.run - 1).toNat)).qa, (mAt ms497 ((q.run - 1).toNat)).qc⟩ : MTh)) := RowsO.set (RowsO.own hRO529 hg528 k525 (by decide) (by decide)) (show (q.run - 1).toNat < ms497.length by omega) ⟨rfl, rfl, rfl⟩ ⟨rfl, rfl, rfl⟩
      refine wpo_nil ?_
      refine wpf_seq_region ?_
      refine wpo_move (v := .slice (some ⟨B, 0, none⟩) ms497.length cap) (e309.trans (congrArg (fun n : Nat => Value.slice (some ⟨B, 0, none⟩) n cap) hl498.symm)) rfl ?_
      refine wpo_move (v := .int .i64 ((far (tabT ms) q (rAt ((mAt ms ((q.run - 1).toNat)).t.slots) ((q.a).toNat))).2)) rfl rfl ?_
      refine wpo_assign (v := .slice (some ⟨B, 0, none⟩) ms497.length cap) rfl rfl ?_
      refine wpo_assign (v := .int .i64 ((far (tabT ms) q (rAt ((mAt ms ((q.run - 1).toNat)).t.slots) ((q.a).toNat))).2)) rfl rfl ?_
      refine wpo_nil ?_
      refine wpf_ret ?_
      have hf : doCall (tabT ms) q = (tabT (ms497.set (q.run - 1).toNat (⟨⟨(mAt ms497 ((q.run - 1).toNat)).t.kind, ((mAt ms497 ((q.run - 1).toNat)).t.lab), (mAt ms497 ((q.run - 1).toNat)).t.ve, (far (tabT ms) q (rAt ((mAt ms ((q.run - 1).toNat)).t.slots) ((q.a).toNat))).2, (mAt ms497 ((q.run - 1).toNat)).t.slots, (mAt ms497 ((q.run - 1).toNat)).t.queue, (mAt ms497 ((q.run - 1).toNat)).t.to⟩, (mAt ms497 ((q.run - 1).toNat)).sa, (mAt ms497 ((q.run - 1).toNat)).sc, (mAt ms497 ((q.run - 1).toNat)).qa, (mAt ms497 ((q.run - 1).toNat)).qc⟩ : MTh)), (far (tabT ms) q (rAt ((mAt ms ((q.run - 1).toNat)).t.slots) ((q.a).toNat))).2) := do_sees h330 h342 h490 htab501 h523 rfl
      exact ⟨.tuple #[.slice (some ⟨B, 0, none⟩) ms497.length cap, .int .i64 ((far (tabT ms) q (rAt ((mAt ms ((q.run - 1).toNat)).t.slots) ((q.a).toNat))).2)], res2 rfl rfl rfl, ms497.set (q.run - 1).toNat (⟨⟨(mAt ms497 ((q.run - 1).toNat)).t.kind, ((mAt ms497 ((q.run - 1).toNat)).t.lab), (mAt ms497 ((q.run - 1).toNat)).t.ve, (far (tabT ms) q (rAt ((mAt ms ((q.run - 1).toNat)).t.slots) ((q.a).toNat))).2, (mAt ms497 ((q.run - 1).toNat)).t.slots, (mAt ms497 ((q.run - 1).toNat)).t.queue, (mAt ms497 ((q.run - 1).toNat)).t.to⟩, (mAt ms497 ((q.run - 1).toNat)).sa, (mAt ms497 ((q.run - 1).toNat)).sc, (mAt ms497 ((q.run - 1).toNat)).qa, (mAt ms497 ((q.run - 1).toNat)).qc⟩ : MTh), by rw [hf, hl498], by first | omega | (simp only [List.length_set, putT_len]; try omega), hO527, hRO531, by rw [hf], hb530⟩
    ·
     refine wpf_skip ?_
     refine blk_n ?_
     refine thn_n ?_
     refine wpf_seq_region ?_
     refine wpo_move (v := .slice (some ⟨B, 0, none⟩) ms.length cap) e309 rfl ?_
     refine wpo_fieldAddr (o' := 1) fo_76_1 e310 rfl rfl ?_
     have k532 := (k341.grown0 hg488)
     refine wpo_load1 (v := .int .i64 q.run) ot_3 rfl (k532.cell rfl) rfl ?_
     refine wpo_sub (c := q.run - 1) rfl rfl (by omega) (by omega) (by omega) rfl ?_
     refine wpo_move (v := .int .i64 (check1 (tabT ms) q)) e313 rfl ?_
     refine wpo_indexAddr (o' := (q.run - 1).toNat * 8) es_54 rfl rfl (by omega) (by omega) (by omega) rfl ?_
     refine wpo_fieldAddr (o' := (q.run - 1).toNat * 8 + 4) fo_45_3 rfl rfl rfl ?_
     have k533 := (k486.grown0 hg488)
     have hRO537 := (RowsO.low hRO485 hg488)
     refine wpo_store1O (g := MTh.cells) (j := 4) (z := (mAt ms ((q.run - 1).toNat))) (z' := (⟨⟨(mAt ms ((q.run - 1).toNat)).t.kind, ((mAt ms ((q.run - 1).toNat)).t.lab), (mAt ms ((q.run - 1).toNat)).t.ve, check1 (tabT ms) q, (mAt ms ((q.run - 1).toNat)).t.slots, (mAt ms ((q.run - 1).toNat)).t.queue, (mAt ms ((q.run - 1).toNat)).t.to⟩, (mAt ms ((q.run - 1).toNat)).sa, (mAt ms ((q.run - 1).toNat)).sc, (mAt ms ((q.run - 1).toNat)).qa, (mAt ms ((q.run - 1).toNat)).qc⟩ : MTh)) (v := .int .i64 (check1 (tabT ms) q)) ot_3 rfl rfl rfl wide_mth k533 (mAt_get (show (q.run - 1).toNat < ms.length by omega)) (by omega) rfl rfl ?_
     intro w534 hO535 hg536
     have hb538 := KeepsI.own hb489 hg536 k533 (by decide) (by omega) (by omega)
     have hRO539 : RowsO 29 3 lo w534 (ms.set (q.run - 1).toNat (⟨⟨(mAt ms ((q.run - 1).toNat)).t.kind, ((mAt ms ((q.run - 1).toNat)).t.lab), (mAt ms ((q.run - 1).toNat)).t.ve, check1 (tabT ms) q, (mAt ms ((q.run - 1).toNat)).t.slots, (mAt ms ((q.run - 1).toNat)).t.queue, (mAt ms ((q.run - 1).toNat)).t.to⟩, (mAt ms ((q.run - 1).toNat)).sa, (mAt ms ((q.run - 1).toNat)).sc, (mAt ms ((q.run - 1).toNat)).qa, (mAt ms ((q.run - 1).toNat)).qc⟩ : MTh)) := RowsO.set (RowsO.own hRO537 hg536 k533 (by decide) (by decide)) (show (q.run - 1).toNat < ms.length by omega) ⟨rfl, rfl, rfl⟩ ⟨rfl, rfl, rfl⟩
     refine wpo_nil ?_
     refine wpf_seq_region ?_
     refine wpo_move (v := .slice (some ⟨B, 0, none⟩) ms.length cap) e309 rfl ?_
     refine wpo_move (v := .int .i64 (check1 (tabT ms) q)) e313 rfl ?_
     refine wpo_assign (v := .slice (some ⟨B, 0, none⟩) ms.length cap) rfl rfl ?_
     refine wpo_assign (v := .int .i64 (check1 (tabT ms) q)) rfl rfl ?_
     refine wpo_nil ?_
     refine wpf_ret ?_
     have hf : doCall (tabT ms) q = (tabT (ms.set (q.run - 1).toNat (⟨⟨(mAt ms ((q.run - 1).toNat)).t.kind, ((mAt ms ((q.run - 1).toNat)).t.lab), (mAt ms ((q.run - 1).toNat)).t.ve, check1 (tabT ms) q, (mAt ms ((q.run - 1).toNat)).t.slots, (mAt ms ((q.run - 1).toNat)).t.queue, (mAt ms ((q.run - 1).toNat)).t.to⟩, (mAt ms ((q.run - 1).toNat)).sa, (mAt ms ((q.run - 1).toNat)).sc, (mAt ms ((q.run - 1).toNat)).qa, (mAt ms ((q.run - 1).toNat)).qc⟩ : MTh)), check1 (tabT ms) q) := do_dead h330 h342 h490 rfl
     exact ⟨.tuple #[.slice (some ⟨B, 0, none⟩) ms.length cap, .int .i64 (check1 (tabT ms) q)], res2 rfl rfl rfl, ms.set (q.run - 1).toNat (⟨⟨(mAt ms ((q.run - 1).toNat)).t.kind, ((mAt ms ((q.run - 1).toNat)).t.lab), (mAt ms ((q.run - 1).toNat)).t.ve, check1 (tabT ms) q, (mAt ms ((q.run - 1).toNat)).t.slots, (mAt ms ((q.run - 1).toNat)).t.queue, (mAt ms ((q.run - 1).toNat)).t.to⟩, (mAt ms ((q.run - 1).toNat)).sa, (mAt ms ((q.run - 1).toNat)).sc, (mAt ms ((q.run - 1).toNat)).qa, (mAt ms ((q.run - 1).toNat)).qc⟩ : MTh), by rw [hf], by first | omega | (simp only [List.length_set, putT_len]; try omega), hO535, hRO539, by rw [hf], hb538⟩
theorem gf_111 : goFn Try.prog 111 = true := by kernel_rfl
theorem gf_112 : goFn Try.prog 112 = true := by kernel_rfl
theorem gf_113 : goFn Try.prog 113 = true := by kernel_rfl
theorem l72Calls_c (p : Int) (hp : 0 ≤ p ∧ p ≤ 999999970000) (lo R : Nat) (bs : List Int) (a : Option Addr) (c : Nat) (w : World) (hR : Blk w R 121 #[.slice a bs.length c, .int .i64 p]) (hlo : lo ≤ R) (hs : SlLt lo w a 1 (bs.map bcell)) (hb : ∀ b ∈ bs, 0 ≤ b ∧ b ≤ 255) (hn : bs.length ≤ 1048576) (ms : List MTh) (ta : Option Addr) (tc tlo : Nat) (hG : TabG tlo w ta ms) (hRl : R < tlo) (hlen : TabLen ms) (hmn : 1 ≤ ms.length ∧ ms.length ≤ 8) : CallsR Try.prog 96 #[.pointer (some ⟨R, 0, none⟩), .slice ta ms.length tc] w (fun v w' => ∃ (B cap : Nat) (cs : List Cl) (p' : Int), v = .slice (some ⟨B, 0, none⟩) cs.length cap ∧ Dw.Own w' B 76 5 cap cs.length (cs.flatMap Cl.cells) ∧ w.heap.size ≤ B ∧ cs.length ≤ 25 ∧ p ≤ p' ∧ p' ≤ p + 2000 ∧ Blk w' R 121 #[.slice a bs.length c, .int .i64 p'] ∧ w.grownBy w' (some R)) := by
 refine calls_of_wpf (n := 61) Try.func96 rfl Try.ntmps96 rfl ?_
 have hb0 := World.grownBy.refl w (some R)
 have hRlt := hR.lt
 have hTH := TabG.hi hG
 refine wpf_seq_region ?_
 refine wpo_assign (v := .slice none 0 0) rfl rfl ?_
 refine wpo_nil ?_
 refine wpf_seq_region ?_
 refine wpo_buildSlice (ps := []) (e := 76) (cs := (([] : List Cl).flatMap Cl.cells).toArray) parts_nil (fun _ => by kernel_rfl) rfl ?_
 intro B101 w102 hN103
 have hlB101 := hN_ge hN103 hb0
 have lt_R_B101 := hN_gtl hN103 (hR).lt
 have hb104 := low0 hb0 hN103.grw
 refine wpo_assign (v := .slice (some ⟨B101, 0, none⟩) 0 0) rfl rfl ?_
 refine wpo_nil ?_
 refine wpf_seq ?_
 refine wpf_seq_region ?_
 refine wpo_move (v := .slice ta ms.length tc) rfl rfl ?_
 refine wpo_call (vs := [.slice ta ms.length tc]) gf_34 (args_cons rfl args_nil) rfl (sTableOk_c  _ ms _ _ (TabG.at (TabG.low hG hN103.grw)) hlen (by omega)) ?_
 rintro _ w105 ⟨rfl, hg106⟩
 have hb107 := low0 hb104 hg106
 refine wpo_not (b' := !tableOk (tabT ms)) rfl rfl rfl ?_
 refine wpo_nil ?_
 refine wpf_cond rfl (fun h108 => ?_) (fun h108 => ?_)
 ·
  have h109 := nt_t h108
  refine wpf_seq_region ?_
  refine wpo_move (v := .pointer (some ⟨R, 0, none⟩)) rfl rfl ?_
  refine wpo_move (v := .slice ta ms.length tc) rfl rfl ?_
  have k110 := ((hR.grown0 hN103.grw).grown0 hg106)
  refine wpo_call (vs := [.pointer (some ⟨R, 0, none⟩), .slice ta ms.length tc]) gf_111 (args_cons rfl (args_cons rfl args_nil)) rfl (l71Call_c p (by omega) _ R bs _ _ _ k110 (by omega) (SlLt.low1 hs hb107 hlo) (by first | exact hb | exact fun b h => hb b (List.mem_of_mem_take h)) (by first | omega | (rw [List.length_take]; omega)) ms _ _ _ (TabG.low (TabG.low hG hN103.grw) hg106) (by omega) hlen (by omega)) ?_
  rintro _ w117 ⟨q111, p112, rfl, hq118, hp113, hp114, kR115, hg116⟩
  have hb119 := grown_trans hb107 hg116
  refine wpo_buildSlice (ps := [(0, .agg #[.int .i64 q111.kind, .int .i64 q111.run, .int .i64 q111.a, .int .i64 q111.b, .int .i64 q111.n])]) (e := 76) (cs := (([q111] : List Cl).flatMap Cl.cells).toArray) (parts_cons rfl parts_nil) (fun _ => by kernel_rfl) rfl ?_
  intro B120 w121 hN122
  have hlB120 := hN_ge hN122 hb119
  have lt_R_B120 := hN_gtl hN122 (kR115).lt
  have k123 := ((hN103.blk.grown0 hg106).grown hg116 (some_ne (by omega)))
  have lt_B101_B120 := hN_gtl hN122 (k123).lt
  have hb124 := low0 hb119 hN122.grw
  refine wpo_assign (v := .slice (some ⟨B120, 0, none⟩) 1 1) rfl rfl ?_
  refine wpo_nil ?_
  refine wpf_ret ?_
  refine thn_r ?_
  have k125 := (kR115.grown0 hN122.grw)
  refine ⟨.slice (some ⟨B120, 0, none⟩) 1 1, res1 rfl rfl, B120, (([q111] : List Cl).length), ([q111] : List Cl), p112, rfl, (Own.rows wide_cl hN122.blk (by simp)), hlB120, by first | omega | (simp only [List.length_append, List.length_cons, List.length_nil]; omega), by omega, by omega, k125, hb124⟩
 ·
  have h126 := nt_f h108
  refine wpf_skip ?_
  refine thn_n ?_
  refine wpf_seq_region ?_
  refine wpo_move (v := .slice ta ms.length tc) rfl rfl ?_
  have k127 := ((hR.grown0 hN103.grw).grown0 hg106)
  have k128 := (hN103.blk.grown0 hg106)
  refine wpo_call (vs := [.slice ta ms.length tc]) gf_112 (args_cons rfl args_nil) rfl (l3Copy_c _ ms _ _ (TabG.at (TabG.low (TabG.low hG hN103.grw) hg106)) hlen (by omega)) ?_
  rintro _ w137 ⟨B129, cap130, ys131, rfl, he132, hge133, hO134, hRO135, hg136⟩
  have hb140 := low0 hb107 hg136
  have hlB129 := Nat.le_trans hb107.size hge133
  have lt_R_B129 := Nat.lt_of_lt_of_le (k127).lt hge133
  have lt_B101_B129 := Nat.lt_of_lt_of_le (k128).lt hge133
  have hRO141 := RowsO.mono hRO135 hb107.size
  have hTL138 := TabLen.of he132 hlen
  have hll139 := tabT_length he132
  have hT142 : tableOk (tabT ys131) = true := by rw [he132]; exact h126
  refine wpo_assign (v := .slice (some ⟨B129, 0, none⟩) ys131.length cap130) rfl rfl ?_
  refine wpo_nil ?_
  refine wpf_seq ?_
  refine wpf_seq_region ?_
  refine wpo_move (v := .pointer (some ⟨R, 0, none⟩)) rfl rfl ?_
  have k143 := (k127.grown0 hg136)
  refine wpo_call (vs := [.pointer (some ⟨R, 0, none⟩), .int .i64 24]) gf_60 (args_cons rfl (args_cons rfl args_nil)) rfl (pick_c p 24 (by omega) _ R bs _ _ _ k143 (by omega) (SlLt.low1 hs hb140 hlo) (by first | exact hb | exact fun b h => hb b (List.mem_of_mem_take h)) (by first | omega | (rw [List.length_take]; omega))) ?_
  rintro _ w149 ⟨k144, rfl, hk145, hk146, kR147, hg148⟩
  have hb150 := grown_trans hb140 hg148
  refine wpo_assign (v := .int .i64 k144) rfl rfl ?_
  refine wpo_nil ?_
  refine wpf_block ?_
  have hRO151 := (RowsO.lt hRO141 hg148 (by omega))
  have k152 := ((k128.grown0 hg136).grown hg148 (some_ne (by omega)))
  have k153 := (hO134.grown hg148 (some_ne (by omega)))
  refine wpf_loopN (fun mm f' w' => ∃ (n : Int) (p1 : Int) (Bq : Nat) (cq : Nat) (cs : List Cl) (xs : List MTh), mm = n.toNat ∧ (0 ≤ n ∧ n ≤ 24) ∧ (p ≤ p1 ∧ p1 ≤ p + 1600 - 61 * n) ∧ (cs.length : Int) ≤ 24 - n ∧ RowsO 29 3 w.heap.size w' xs ∧ tableOk (tabT xs) = true ∧ TabLen xs ∧ Dw.Own w' Bq 76 5 cq cs.length (cs.flatMap Cl.cells) ∧ w.heap.size ≤ Bq ∧ R ≠ Bq ∧ B129 ≠ Bq ∧ f' 5 = .slice (some ⟨Bq, 0, none⟩) cs.length cq ∧ f' 6 = .slice (some ⟨B129, 0, none⟩) xs.length cap130 ∧ f' 7 = .int .i64 n ∧ f' 0 = .pointer (some ⟨R, 0, none⟩) ∧ f' 4 = .slice none 0 0 ∧ w.grownBy w' (some R) ∧ Dw.Own w' B129 45 8 cap130 xs.length (xs.flatMap MTh.cells) ∧ Blk w' R 121 #[.slice a bs.length c, .int .i64 p1]) (k144.toNat) ⟨k144, (p + 1), B101, 0, ([] : List Cl), ys131, rfl, (by omega), (by omega), (by simp only [List.length_nil]; omega), hRO151, hT142, hTL138, (Own.rows wide_cl k152 (by simp)), hlB101, (by omega), (by omega), rfl, rfl, rfl, rfl, rfl, hb150, k153, kR147⟩ ?_
  rintro mm f154 w155 ⟨n, p1, Bq, cq, cs, xs, hm157, hnn, hpp, hcl, hRO, hTx, hTLx, hOwn, hlBq, hne0, hne1, e158, e159, e160, e161, e162, hb156, k163, k164⟩
  have hmlx := tab_len hTx
  refine wpf_seq ?_
  refine wpf_seq_region ?_
  refine wpo_move (v := .int .i64 n) e160 rfl ?_
  refine wpo_gtr (q := decide (0 < n)) rfl rfl rfl rfl ?_
  refine wpo_nil ?_
  refine wpf_cond rfl (fun h165 => ?_) (fun h165 => ?_)
  ·
   have h166 := of_decide_eq_true h165
   refine wpf_skip ?_
   refine thn_n ?_
   refine wpf_seq ?_
   refine wpf_block ?_
   refine wpf_seq_region ?_
   refine wpo_move (v := .pointer (some ⟨R, 0, none⟩)) e161 rfl ?_
   refine wpo_move (v := .slice (some ⟨B129, 0, none⟩) xs.length cap130) e159 rfl ?_
   refine wpo_call (vs := [.pointer (some ⟨R, 0, none⟩), .slice (some ⟨B129, 0, none⟩) xs.length cap130]) gf_111 (args_cons rfl (args_cons rfl args_nil)) rfl (l71Call_c p1 (by omega) _ R bs _ _ _ k164 (by omega) (SlLt.low1 hs hb156 hlo) (by first | exact hb | exact fun b h => hb b (List.mem_of_mem_take h)) (by first | omega | (rw [List.length_take]; omega)) xs _ _ _ (RowsO.tabG hRO k163 hlB129) (by omega) hTLx (by omega)) ?_
   rintro _ w173 ⟨q167, p168, rfl, hq174, hp169, hp170, kR171, hg172⟩
   have hb175 := grown_trans hb156 hg172
   refine wpo_alloc (cs := #[.int .i64 0, .int .i64 0, .int .i64 0, .int .i64 0, .int .i64 0]) zt_76 rfl rfl ?_
   intro B176 w177 hN178
   have hlB176 := hN_ge hN178 hb175
   have k179 := (k163.grown hg172 (some_ne (by omega)))
   have lt_B129_B176 := hN_gtl hN178 (k179).lt
   have lt_R_B176 := hN_gtl hN178 (kR171).lt
   have k180 := (hOwn.grown hg172 (some_ne (by omega)))
   have lt_Bq_B176 := hN_gtl hN178 (k180).lt
   have hb181 := low0 hb175 hN178.grw
   refine wpo_storen (vs := [.int .i64 q167.kind, .int .i64 q167.run, .int .i64 q167.a, .int .i64 q167.b, .int .i64 q167.n]) (cs' := #[.int .i64 q167.kind, .int .i64 q167.run, .int .i64 q167.a, .int .i64 q167.b, .int .i64 q167.n]) rt_76 rfl rfl rfl (by simp [Value.oneCell']) hN178.blk (Nat.le_of_ble_eq_true rfl) rfl ?_
   intro w182 hS183
   have hb184 := low1 hb181 hS183.grw (by omega)
   refine wpo_nil ?_
   refine wpf_seq_region_mid (fun f' w' => (f' 0 = .pointer (some ⟨R, 0, none⟩) ∧ f' 4 = .slice none 0 0 ∧ f' 5 = .slice (some ⟨Bq, 0, none⟩) cs.length cq ∧ f' 6 = .slice (some ⟨B129, 0, none⟩) xs.length cap130 ∧ f' 7 = .int .i64 n ∧ f' 8 = .pointer (some ⟨B176, 0, none⟩) ∧ f' 37 = .bool (callOk q167 && kindAt (tabT xs) q167.run 3)) ∧ w182.grownBy w' none) ?_ ?_
   ·
    refine wpo_loadn (vs := [.int .i64 q167.kind, .int .i64 q167.run, .int .i64 q167.a, .int .i64 q167.b, .int .i64 q167.n]) rt_76 rfl rfl (hS183.blk.rangeL 0 5 rfl) rfl ?_
    refine wpo_call (vs := [.agg #[.int .i64 q167.kind, .int .i64 q167.run, .int .i64 q167.a, .int .i64 q167.b, .int .i64 q167.n]]) gf_108 (args_cons rfl args_nil) rfl (sCallOk_c q167 _) ?_
    rintro _ w197 ⟨rfl, hg198⟩
    have hb199 := low0 hb184 hg198
    refine wpo_move (v := .bool (callOk q167)) rfl rfl ?_
    rcases bcases (callOk q167) with h200 | h200
    ·
     have hco201 := callOk_iff h200
     refine wpo_run rfl rfl rfl h200 ?_
     refine wpo_move (v := .slice (some ⟨B129, 0, none⟩) xs.length cap130) e159 rfl ?_
     refine wpo_run rfl rfl rfl h200 ?_
     refine wpo_fieldAddr (o' := 1) fo_76_1 rfl rfl rfl ?_
     refine wpo_run rfl rfl rfl h200 ?_
     have k202 := (hS183.blk.grown0 hg198)
     refine wpo_load1 (v := .int .i64 q167.run) ot_3 rfl (k202.cell rfl) rfl ?_
     refine wpo_run rfl rfl rfl h200 ?_
     have hRO203 := (RowsO.low (RowsO.typB (RowsO.low (RowsO.lt hRO hg172 (by omega)) hN178.grw) hS183.grw hN178.blk (by decide) (by decide)) hg198)
     have k204 := (((k179.grown0 hN178.grw).grown hS183.grw (some_ne (by omega))).grown0 hg198)
     refine wpo_call (vs := [.slice (some ⟨B129, 0, none⟩) xs.length cap130, .int .i64 q167.run]) gf_109 (args_cons rfl (args_cons rfl args_nil)) rfl (l11Run_c q167.run (by omega) _ xs _ _ (RowsO.tab hRO203 k204) hTLx (by omega)) ?_
     rintro _ w205 ⟨rfl, hg206⟩
     have hb207 := low0 hb199 hg206
     refine wpo_pickt (v := .bool (kindAt (tabT xs) q167.run 3)) rfl h200 rfl rfl ?_
     exact wpo_nil ⟨⟨e161, e162, e158, e159, e160, rfl, (congrArg Value.bool (by first | (simp only [h108, h126, h165, h200, hT142, hTx, b0, b1, b2, b3, b4, b5, b6, b7, b8, b9]; done) | simp [h108, h126, h165, h200, hT142, hTx]))⟩, (grown_trans hg198 hg206)⟩
    ·
     iterate 4 refine wpo_pass rfl rfl rfl h200 rfl ?_
     refine wpo_pickf (v := .bool false) rfl h200 rfl rfl ?_
     exact wpo_nil ⟨⟨e161, e162, e158, e159, e160, rfl, (congrArg Value.bool (by first | (simp only [h108, h126, h165, h200, hT142, hTx, b0, b1, b2, b3, b4, b5, b6, b7, b8, b9]; done) | simp [h108, h126, h165, h200, hT142, hTx]))⟩, hg198⟩
   ·
    rintro f208 w209 ⟨⟨e210, e211, e212, e213, e214, e215, e216⟩, hg217⟩
    have hb218 := low0 hb184 hg217
    refine wpf_cond e216 (fun h219 => ?_) (fun h219 => ?_)
    ·
     have h220 := and_l h219
     have hco221 := callOk_iff h220
     have h222 := and_r h219
     refine wpf_seq_region ?_
     refine wpo_move (v := .slice (some ⟨B129, 0, none⟩) xs.length cap130) e213 rfl ?_
     have k223 := (hS183.blk.grown0 hg217)
     refine wpo_loadn (vs := [.int .i64 q167.kind, .int .i64 q167.run, .int .i64 q167.a, .int .i64 q167.b, .int .i64 q167.n]) rt_76 e215 rfl (k223.rangeL 0 5 rfl) rfl ?_
     have k224 := (((k179.grown0 hN178.grw).grown hS183.grw (some_ne (by omega))).grown0 hg217)
     have k225 := (((kR171.grown0 hN178.grw).grown hS183.grw (some_ne (by omega))).grown0 hg217)
     have k226 := (((k180.grown0 hN178.grw).grown hS183.grw (some_ne (by omega))).grown0 hg217)
     have hRO227 := (RowsO.low (RowsO.typB (RowsO.low (RowsO.lt hRO hg172 (by omega)) hN178.grw) hS183.grw hN178.blk (by decide) (by decide)) hg217)
     have hp228 := callPoss_of (q := q167) hTx h220 h222
     have hlt229 := (k224).lt
     have hlt230 := (k225).lt
     have hlt231 := (k226).lt
     have hlt232 := (k223).lt
     refine wpo_call (vs := [.slice (some ⟨B129, 0, none⟩) xs.length cap130, .agg #[.int .i64 q167.kind, .int .i64 q167.run, .int .i64 q167.a, .int .i64 q167.b, .int .i64 q167.n]]) gf_113 (args_cons rfl (args_cons rfl args_nil)) rfl (l12Do_c q167 w.heap.size B129 cap130 xs _ k224 hRO227 hlB129 hp228) ?_
     rintro _ w239 ⟨ms233, rfl, hl234, hO235, hRO236, htab237, hK238⟩
     have hb240 := KeepsI.grown hb218 hK238 (by omega)
     have hT241 : tableOk (tabT ms233) = true := by rw [htab237]; exact (doCall_ok hp228).1
     have hTL242 := TabLen.ok hT241
     refine wpo_move (v := .tuple #[.slice (some ⟨B129, 0, none⟩) ms233.length cap130, .int .i64 ((doCall (tabT xs) q167).2)]) (congrArg (fun n : Nat => Value.tuple #[.slice (some ⟨B129, 0, none⟩) n cap130, .int .i64 ((doCall (tabT xs) q167).2)]) hl234.symm) rfl ?_
     refine wpo_extract (v := .slice (some ⟨B129, 0, none⟩) ms233.length cap130) rfl rfl rfl ?_
     refine wpo_extract (v := .int .i64 ((doCall (tabT xs) q167).2)) rfl rfl rfl ?_
     refine wpo_assign (v := .slice (some ⟨B129, 0, none⟩) ms233.length cap130) rfl rfl ?_
     refine wpo_assign (v := .int .i64 ((doCall (tabT xs) q167).2)) rfl rfl ?_
     refine wpo_nil ?_
     refine wpf_seq_region ?_
     refine wpo_move (v := .slice (some ⟨B129, 0, none⟩) ms233.length cap130) rfl rfl ?_
     refine wpo_assign (v := .slice (some ⟨B129, 0, none⟩) ms233.length cap130) rfl rfl ?_
     refine wpo_nil ?_
     refine wpf_region ?_
     refine wpo_move (v := .slice (some ⟨Bq, 0, none⟩) cs.length cq) e212 rfl ?_
     have k243 := (Blk.keepsI k223 hK238 (Or.inr (Or.inr (by decide))))
     refine wpo_loadn (vs := [.int .i64 q167.kind, .int .i64 q167.run, .int .i64 q167.a, .int .i64 q167.b, .int .i64 q167.n]) rt_76 e215 rfl (k243.rangeL 0 5 rfl) rfl ?_
     refine wpo_buildSlice (ps := [(0, .agg #[.int .i64 q167.kind, .int .i64 q167.run, .int .i64 q167.a, .int .i64 q167.b, .int .i64 q167.n])]) (e := 76) (cs := (([q167] : List Cl).flatMap Cl.cells).toArray) (parts_cons rfl parts_nil) (fun _ => by kernel_rfl) rfl ?_
     intro B244 w245 hN246
     have hlB244 := hN_ge hN246 hb240
     have lt_B129_B244 := hN_gtl hN246 (hO235).lt
     have k247 := (Blk.keepsI k225 hK238 (Or.inr (Or.inr (by decide))))
     have lt_R_B244 := hN_gtl hN246 (k247).lt
     have k248 := (Own.keepsI k226 hK238 (Or.inr (Or.inr (by decide))))
     have lt_Bq_B244 := hN_gtl hN246 (k248).lt
     have lt_B176_B244 := hN_gtl hN246 (k243).lt
     have hb249 := low0 hb240 hN246.grw
     have k250 := (k248.grown0 hN246.grw)
     have k251 := (hO235.grown0 hN246.grw)
     have k252 := (k247.grown0 hN246.grw)
     have k253 := (k243.grown0 hN246.grw)
     refine wpo_append (g := Cl.cells) (ys := cs) (zs := ([q167] : List Cl)) mk_69 rfl wide_cl (by omega) onec_cl rfl rfl k250 (rows_sl wide_cl hN246.blk) (by simp only [List.length_cons, List.length_nil]; omega) (by omega) rfl ?_
     intro B254 cap255 w256 hO257 hg258 hor259
     have hlB254 : w.heap.size ≤ B254 := by rcases hor259 with h | h; (rw [h]; exact hlBq); (rw [h]; exact hb249.size)
     have ne_B129_B254 : B129 ≠ B254 := by have h := (k251).lt; omega
     have ne_R_B254 : R ≠ B254 := by have h := (k252).lt; omega
     have ne_B176_B254 : B176 ≠ B254 := by have h := (k253).lt; omega
     have ne_B244_B254 : B244 ≠ B254 := by have h := (hN246.blk).lt; omega
     have hb260 := low1 hb249 hg258 (by omega)
     refine wpo_assign (v := .slice (some ⟨B254, 0, none⟩) ((cs ++ ([q167] : List Cl)).length) cap255) rfl rfl ?_
     refine wpo_nil ?_
     refine blk_n ?_
     refine thn_n ?_
     refine wpf_region ?_
     refine wpo_move (v := .int .i64 n) e214 rfl ?_
     refine wpo_sub (c := n - 1) rfl rfl (by omega) (by omega) (by omega) rfl ?_
     refine wpo_assign (v := .int .i64 (n - 1)) rfl rfl ?_
     refine wpo_nil ?_
     refine thn_n ?_
     have hRO261 := (RowsO.own (RowsO.low hRO236 hN246.grw) hg258 k250 (by decide) (by decide))
     have k262 := (k251.grown hg258 (some_ne (by omega)))
     have k263 := (k252.grown hg258 (some_ne (by omega)))
     exact ⟨(n - 1).toNat, by omega, (n - 1), p168, B254, cap255, (cs ++ ([q167] : List Cl)), ms233, rfl, (by omega), (by omega), (by first | omega | (simp only [List.length_append, List.length_cons, List.length_nil]; omega)), hRO261, hT241, hTL242, hO257, hlB254, (by omega), (by omega), rfl, rfl, rfl, e210, e211, hb260, k262, k263⟩
    ·
     refine wpf_skip ?_
     refine blk_n ?_
     refine thn_n ?_
     refine wpf_region ?_
     refine wpo_move (v := .int .i64 n) e214 rfl ?_
     refine wpo_sub (c := n - 1) rfl rfl (by omega) (by omega) (by omega) rfl ?_
     refine wpo_assign (v := .int .i64 (n - 1)) rfl rfl ?_
     refine wpo_nil ?_
     refine thn_n ?_
     have hRO264 := (RowsO.low (RowsO.typB (RowsO.low (RowsO.lt hRO hg172 (by omega)) hN178.grw) hS183.grw hN178.blk (by decide) (by decide)) hg217)
     have k265 := (((k179.grown0 hN178.grw).grown hS183.grw (some_ne (by omega))).grown0 hg217)
     have k266 := (((k180.grown0 hN178.grw).grown hS183.grw (some_ne (by omega))).grown0 hg217)
     have k267 := (((kR171.grown0 hN178.grw).grown hS183.grw (some_ne (by omega))).grown0 hg217)
     exact ⟨(n - 1).toNat, by omega, (n - 1), p168, Bq, cq, cs, xs, rfl, (by omega), (by omega), (by first | omega | (simp only [List.length_append, List.length_cons, List.length_nil]; omega)), hRO264, hTx, hTLx, k266, hlBq, (by omega), (by omega), e212, e213, rfl, e210, e211, hb218, k265, k267⟩
  ·
   have h268 := of_decide_eq_false h165
   refine wpf_exit ?_
   refine thn_e ?_
   refine thn_e ?_
   refine blk_e ?_
   refine thn_n ?_
   refine wpf_seq ?_
   refine wpf_seq_region ?_
   refine wpo_move (v := .pointer (some ⟨R, 0, none⟩)) e161 rfl ?_
   refine wpo_call (vs := [.pointer (some ⟨R, 0, none⟩), .int .i64 30]) gf_60 (args_cons rfl (args_cons rfl args_nil)) rfl (pick_c p1 30 (by omega) _ R bs _ _ _ k164 (by omega) (SlLt.low1 hs hb156 hlo) (by first | exact hb | exact fun b h => hb b (List.mem_of_mem_take h)) (by first | omega | (rw [List.length_take]; omega))) ?_
   rintro _ w274 ⟨k269, rfl, hk270, hk271, kR272, hg273⟩
   have hb275 := grown_trans hb156 hg273
   refine wpo_eql (q := decide (k269 = 0)) rfl rfl rfl rfl ?_
   refine wpo_nil ?_
   refine wpf_cond rfl (fun h276 => ?_) (fun h276 => ?_)
   ·
    have h277 := of_decide_eq_true h276
    refine wpf_seq_region ?_
    refine wpo_move (v := .slice (some ⟨Bq, 0, none⟩) cs.length cq) e158 rfl ?_
    refine wpo_move (v := .pointer (some ⟨R, 0, none⟩)) e161 rfl ?_
    refine wpo_call (vs := [.pointer (some ⟨R, 0, none⟩), .int .i64 11]) gf_60 (args_cons rfl (args_cons rfl args_nil)) rfl (pick_c (p1 + 1) 11 (by omega) _ R bs _ _ _ kR272 (by omega) (SlLt.low1 hs hb275 hlo) (by first | exact hb | exact fun b h => hb b (List.mem_of_mem_take h)) (by first | omega | (rw [List.length_take]; omega))) ?_
    rintro _ w283 ⟨k278, rfl, hk279, hk280, kR281, hg282⟩
    have hb284 := grown_trans hb275 hg282
    refine wpo_move (v := .pointer (some ⟨R, 0, none⟩)) e161 rfl ?_
    refine wpo_call (vs := [.pointer (some ⟨R, 0, none⟩), .int .i64 9]) gf_60 (args_cons rfl (args_cons rfl args_nil)) rfl (pick_c (p1 + 1 + 1) 9 (by omega) _ R bs _ _ _ kR281 (by omega) (SlLt.low1 hs hb284 hlo) (by first | exact hb | exact fun b h => hb b (List.mem_of_mem_take h)) (by first | omega | (rw [List.length_take]; omega))) ?_
    rintro _ w290 ⟨k285, rfl, hk286, hk287, kR288, hg289⟩
    have hb291 := grown_trans hb284 hg289
    refine wpo_build (ps := [(0, .int .i64 k278), (1, .int .i64 k285)]) (v := .agg #[.int .i64 k278, .int .i64 k285, .int .i64 0, .int .i64 0, .int .i64 0]) (parts_cons rfl (parts_cons rfl parts_nil)) (by kernel_rfl) rfl ?_
    refine wpo_buildSlice (ps := [(0, .agg #[.int .i64 k278, .int .i64 k285, .int .i64 0, .int .i64 0, .int .i64 0])]) (e := 76) (cs := (([⟨k278, k285, 0, 0, 0⟩] : List Cl).flatMap Cl.cells).toArray) (parts_cons rfl parts_nil) (fun _ => by kernel_rfl) rfl ?_
    intro B292 w293 hN294
    have hlB292 := hN_ge hN294 hb291
    have k295 := (((k163.grown hg273 (some_ne (by omega))).grown hg282 (some_ne (by omega))).grown hg289 (some_ne (by omega)))
    have lt_B129_B292 := hN_gtl hN294 (k295).lt
    have lt_R_B292 := hN_gtl hN294 (kR288).lt
    have k296 := (((hOwn.grown hg273 (some_ne (by omega))).grown hg282 (some_ne (by omega))).grown hg289 (some_ne (by omega)))
    have lt_Bq_B292 := hN_gtl hN294 (k296).lt
    have hb297 := low0 hb291 hN294.grw
    have k298 := (k296.grown0 hN294.grw)
    have k299 := (k295.grown0 hN294.grw)
    have k300 := (kR288.grown0 hN294.grw)
    refine wpo_append (g := Cl.cells) (ys := cs) (zs := ([⟨k278, k285, 0, 0, 0⟩] : List Cl)) mk_69 rfl wide_cl (by omega) onec_cl rfl rfl k298 (rows_sl wide_cl hN294.blk) (by simp only [List.length_cons, List.length_nil]; omega) (by omega) rfl ?_
    intro B301 cap302 w303 hO304 hg305 hor306
    have hlB301 : w.heap.size ≤ B301 := by rcases hor306 with h | h; (rw [h]; exact hlBq); (rw [h]; exact hb297.size)
    have ne_B129_B301 : B129 ≠ B301 := by have h := (k299).lt; omega
    have ne_R_B301 : R ≠ B301 := by have h := (k300).lt; omega
    have ne_B292_B301 : B292 ≠ B301 := by have h := (hN294.blk).lt; omega
    have hb307 := low1 hb297 hg305 (by omega)
    refine wpo_assign (v := .slice (some ⟨B301, 0, none⟩) ((cs ++ ([⟨k278, k285, 0, 0, 0⟩] : List Cl)).length) cap302) rfl rfl ?_
    refine wpo_nil ?_
    refine wpf_ret ?_
    refine thn_r ?_
    have k308 := (k300.grown hg305 (some_ne (by omega)))
    refine ⟨.slice (some ⟨B301, 0, none⟩) ((cs ++ ([⟨k278, k285, 0, 0, 0⟩] : List Cl)).length) cap302, res1 rfl rfl, B301, cap302, (cs ++ ([⟨k278, k285, 0, 0, 0⟩] : List Cl)), (p1 + 1 + 1 + 1), rfl, hO304, hlB301, by first | omega | (simp only [List.length_append, List.length_cons, List.length_nil]; omega), by omega, by omega, k308, hb307⟩
   ·
    have h309 := of_decide_eq_false h276
    refine wpf_skip ?_
    refine thn_n ?_
    refine wpf_seq_region ?_
    refine wpo_move (v := .slice (some ⟨Bq, 0, none⟩) cs.length cq) e158 rfl ?_
    refine wpo_assign (v := .slice (some ⟨Bq, 0, none⟩) cs.length cq) rfl rfl ?_
    refine wpo_nil ?_
    refine wpf_ret ?_
    have k310 := (hOwn.grown hg273 (some_ne (by omega)))
    refine ⟨.slice (some ⟨Bq, 0, none⟩) cs.length cq, res1 rfl rfl, Bq, cq, cs, (p1 + 1), rfl, k310, hlBq, by first | omega | (simp only [List.length_append, List.length_cons, List.length_nil]; omega), by omega, by omega, kR272, hb275⟩
theorem gf_51 : goFn Try.prog 51 = true := by kernel_rfl
theorem gf_96 : goFn Try.prog 96 = true := by kernel_rfl
theorem DrawRunLow_c (bs : List Int) (a : Option Addr) (c : Nat) (w : World) (hs0 : SlAt w a 1 (bs.map bcell)) (hb : ∀ b ∈ bs, 0 ≤ b ∧ b ≤ 255) (hn : bs.length ≤ 1048576) (hc : bs.length ≤ c) : CallsR Try.prog 51 #[.slice a bs.length c] w (fun v w' => ∃ (B cap : Nat) (ms : List MTh) (Q qc : Nat) (cs : List Cl) (l : Lab), v = .tuple #[.slice (some ⟨B, 0, none⟩) ms.length cap, .slice (some ⟨Q, 0, none⟩) cs.length qc, .agg #[.int .i64 l.s, .int .i64 l.v]] ∧ TabG w.heap.size w' (some ⟨B, 0, none⟩) ms ∧ Small ms ∧ (3 ≤ ms.length ∧ ms.length ≤ 8) ∧ Dw.Own w' Q 76 5 qc cs.length (cs.flatMap Cl.cells) ∧ w.heap.size ≤ Q ∧ cs.length ≤ 25 ∧ (-1 ≤ l.s ∧ l.s ≤ 4 ∧ 0 ≤ l.v ∧ l.v ≤ 3) ∧ w.grownBy w' none) := by
 refine calls_of_wpf (n := 19) Try.func51 rfl Try.ntmps51 rfl ?_
 have hb0 := World.grownBy.refl w none
 have hs := SlAt.lt wide_b (by omega) hs0
 refine wpf_seq_region ?_
 refine wpo_assign (v := .slice none 0 0) rfl rfl ?_
 refine wpo_assign (v := .slice none 0 0) rfl rfl ?_
 refine wpo_alloc (cs := #[.int .i64 0, .int .i64 0]) zt_40 rfl rfl ?_
 intro B101 w102 hN103
 have hlB101 := hN_ge hN103 hb0
 have hb104 := low0 hb0 hN103.grw
 refine wpo_nil ?_
 refine wpf_seq_region ?_
 refine wpo_move (v := .slice a bs.length c) rfl rfl ?_
 refine wpo_call (vs := [.slice a bs.length c]) gf_59 (args_cons rfl args_nil) rfl (l6Open_c bs a c _ (by omega) (by omega)) ?_
 rintro _ w109 ⟨R105, rfl, hge106, kR107, hg108⟩
 have hb110 := low0 hb104 hg108
 have hlR105 := Nat.le_trans hb104.size hge106
 have lt_B101_R105 := Nat.lt_of_lt_of_le (hN103.blk).lt hge106
 refine wpo_assign (v := .pointer (some ⟨R105, 0, none⟩)) rfl rfl ?_
 refine wpo_nil ?_
 refine wpf_seq_region ?_
 refine wpo_move (v := .pointer (some ⟨R105, 0, none⟩)) rfl rfl ?_
 have k112 := (hN103.blk.grown0 hg108)
 have hlt111 := (k112).lt
 have hlt113 := (kR107).lt
 refine wpo_call (vs := [.pointer (some ⟨R105, 0, none⟩)]) gf_82 (args_cons rfl args_nil) rfl (l71Fine_c 0 (by omega) _ R105 (bs.take 2000) _ _ _ kR107 (by omega) (SlLt.low0 (SlLt.take hs 2000) hb110) (by first | exact hb | exact fun b h => hb b (List.mem_of_mem_take h)) (by first | omega | (rw [List.length_take]; omega))) ?_
 rintro _ w125 ⟨B114, cap115, ms116, p117, rfl, hTG118, hTS119, hTn120, hp121, hp122, kR123, hg124⟩
 have hb126 := low1 hb110 hg124 (by omega)
 have hTl127 := hTS119.len
 refine wpo_assign (v := .slice (some ⟨B114, 0, none⟩) ms116.length cap115) rfl rfl ?_
 refine wpo_nil ?_
 refine wpf_seq_region ?_
 refine wpo_move (v := .pointer (some ⟨R105, 0, none⟩)) rfl rfl ?_
 refine wpo_move (v := .slice (some ⟨B114, 0, none⟩) ms116.length cap115) rfl rfl ?_
 have k128 := (k112.grown hg124 (some_ne (by omega)))
 refine wpo_call (vs := [.pointer (some ⟨R105, 0, none⟩), .slice (some ⟨B114, 0, none⟩) ms116.length cap115]) gf_96 (args_cons rfl (args_cons rfl args_nil)) rfl (l72Calls_c p117 (by omega) _ R105 (bs.take 2000) _ _ _ kR123 (by omega) (SlLt.low0 (SlLt.take hs 2000) hb126) (by first | exact hb | exact fun b h => hb b (List.mem_of_mem_take h)) (by first | omega | (rw [List.length_take]; omega)) ms116 _ _ _ hTG118 (by omega) hTl127 (by omega)) ?_
 rintro _ w140 ⟨B129, cap130, cs131, p132, rfl, hO133, hge134, hcl135, hp136, hp137, kR138, hg139⟩
 have hb141 := low1 hb126 hg139 (by omega)
 have hlB129 := Nat.le_trans hb126.size hge134
 have lt_B101_B129 := Nat.lt_of_lt_of_le (k128).lt hge134
 have lt_R105_B129 := Nat.lt_of_lt_of_le (kR123).lt hge134
 refine wpo_assign (v := .slice (some ⟨B129, 0, none⟩) cs131.length cap130) rfl rfl ?_
 refine wpo_nil ?_
 refine wpf_seq_region ?_
 refine wpo_move (v := .slice (some ⟨B114, 0, none⟩) ms116.length cap115) rfl rfl ?_
 refine wpo_move (v := .slice (some ⟨B129, 0, none⟩) cs131.length cap130) rfl rfl ?_
 refine wpo_move (v := .pointer (some ⟨R105, 0, none⟩)) rfl rfl ?_
 refine wpo_call (vs := [.pointer (some ⟨R105, 0, none⟩)]) gf_65 (args_cons rfl args_nil) rfl (l71Label_c p132 (by omega) _ R105 (bs.take 2000) _ _ _ kR138 (by omega) (SlLt.low0 (SlLt.take hs 2000) hb141) (by first | exact hb | exact fun b h => hb b (List.mem_of_mem_take h)) (by first | omega | (rw [List.length_take]; omega))) ?_
 rintro _ w152 ⟨l142, p143, rfl, hr144, hr145, hr146, hr147, hp148, hp149, kR150, hg151⟩
 have hb153 := low1 hb141 hg151 (by omega)
 refine wpo_assign (v := .slice (some ⟨B114, 0, none⟩) ms116.length cap115) rfl rfl ?_
 refine wpo_assign (v := .slice (some ⟨B129, 0, none⟩) cs131.length cap130) rfl rfl ?_
 have k154 := ((k128.grown hg139 (some_ne (by omega))).grown hg151 (some_ne (by omega)))
 refine wpo_storen (vs := [.int .i64 l142.s, .int .i64 l142.v]) (cs' := #[.int .i64 l142.s, .int .i64 l142.v]) rt_40 rfl rfl rfl (by simp [Value.oneCell']) k154 (Nat.le_of_ble_eq_true rfl) rfl ?_
 intro w155 hS156
 have hb157 := low1 hb153 hS156.grw (by omega)
 refine wpo_nil ?_
 refine wpf_ret ?_
 have hTG158 := (TabG.lt (TabG.lt (TabG.lt hTG118 hg139 (by omega)) hg151 (by omega)) hS156.grw (by omega))
 have k159 := ((hO133.grown hg151 (some_ne (by omega))).grown hS156.grw (some_ne (by omega)))
 refine ⟨.tuple #[.slice (some ⟨B114, 0, none⟩) ms116.length cap115, .slice (some ⟨B129, 0, none⟩) cs131.length cap130, .agg #[.int .i64 l142.s, .int .i64 l142.v]], resTTC rfl rfl rfl (resCell_mk (vs := [.int .i64 l142.s, .int .i64 l142.v]) rt_40 rfl rfl (hS156.blk.rangeL 0 2 rfl)), B114, cap115, ms116, B129, cap130, cs131, l142, rfl, (TabG.mono hTG158 hb110.size), hTS119, hTn120, k159, hlB129, by omega, by omega, hb157⟩
theorem DrawRunQuiet_c (bs : List Int) (a : Option Addr) (c : Nat) (w : World) (hs0 : SlAt w a 1 (bs.map bcell)) (hb : ∀ b ∈ bs, 0 ≤ b ∧ b ≤ 255) (hn : bs.length ≤ 1048576) (hc : bs.length ≤ c) : CallsR Try.prog 45 #[.slice a bs.length c] w (fun v w' => ∃ (B cap : Nat) (ms : List MTh) (Q qc : Nat) (cs : List Cl) (l : Lab), v = .tuple #[.slice (some ⟨B, 0, none⟩) ms.length cap, .slice (some ⟨Q, 0, none⟩) cs.length qc, .agg #[.int .i64 l.s, .int .i64 l.v]] ∧ TabG w.heap.size w' (some ⟨B, 0, none⟩) ms ∧ Small ms ∧ (3 ≤ ms.length ∧ ms.length ≤ 8) ∧ Dw.Own w' Q 76 5 qc cs.length (cs.flatMap Cl.cells) ∧ w.heap.size ≤ Q ∧ cs.length ≤ 25 ∧ (-1 ≤ l.s ∧ l.s ≤ 4 ∧ 0 ≤ l.v ∧ l.v ≤ 3) ∧ w.grownBy w' none) := by
 refine calls_of_wpf (n := 10) Try.func45 rfl Try.ntmps45 rfl ?_
 have hb0 := World.grownBy.refl w none
 have hs := SlAt.lt wide_b (by omega) hs0
 refine wpf_seq_region ?_
 refine wpo_assign (v := .slice none 0 0) rfl rfl ?_
 refine wpo_assign (v := .slice none 0 0) rfl rfl ?_
 refine wpo_alloc (cs := #[.int .i64 0, .int .i64 0]) zt_40 rfl rfl ?_
 intro B101 w102 hN103
 have hlB101 := hN_ge hN103 hb0
 have hb104 := low0 hb0 hN103.grw
 refine wpo_nil ?_
 refine wpf_seq_region ?_
 refine wpo_move (v := .slice a bs.length c) rfl rfl ?_
 have hlt105 := (hN103.blk).lt
 refine wpo_call (vs := [.slice a bs.length c]) gf_51 (args_cons rfl args_nil) rfl (DrawRunLow_c bs a c _ (SlAt.low hs0 hb104) hb (by omega) (by omega)) ?_
 rintro _ w121 ⟨B106, cap107, ms108, B109, cap110, cs111, l112, rfl, hTG113, hTS114, hTn115, hO116, hge117, hcl118, hd119, hg120⟩
 have hb122 := low0 hb104 hg120
 have hTl123 := hTS114.len
 have hlB109 := Nat.le_trans hb104.size hge117
 have lt_B101_B109 := Nat.lt_of_lt_of_le (hN103.blk).lt hge117
 refine wpo_extract (v := .slice (some ⟨B106, 0, none⟩) ms108.length cap107) rfl rfl rfl ?_
 refine wpo_extract (v := .slice (some ⟨B109, 0, none⟩) cs111.length cap110) rfl rfl rfl ?_
 refine wpo_extract (v := .agg #[.int .i64 l112.s, .int .i64 l112.v]) rfl rfl rfl ?_
 refine wpo_assign (v := .slice (some ⟨B106, 0, none⟩) ms108.length cap107) rfl rfl ?_
 refine wpo_assign (v := .slice (some ⟨B109, 0, none⟩) cs111.length cap110) rfl rfl ?_
 have k124 := (hN103.blk.grown0 hg120)
 refine wpo_storen (vs := [.int .i64 l112.s, .int .i64 l112.v]) (cs' := #[.int .i64 l112.s, .int .i64 l112.v]) rt_40 rfl rfl rfl (by simp [Value.oneCell']) k124 (Nat.le_of_ble_eq_true rfl) rfl ?_
 intro w125 hS126
 have hb127 := low1 hb122 hS126.grw (by omega)
 refine wpo_nil ?_
 refine wpf_ret ?_
 have hTG128 := (TabG.lt hTG113 hS126.grw (by omega))
 have k129 := (hO116.grown hS126.grw (some_ne (by omega)))
 refine ⟨.tuple #[.slice (some ⟨B106, 0, none⟩) ms108.length cap107, .slice (some ⟨B109, 0, none⟩) cs111.length cap110, .agg #[.int .i64 l112.s, .int .i64 l112.v]], resTTC rfl rfl rfl (resCell_mk (vs := [.int .i64 l112.s, .int .i64 l112.v]) rt_40 rfl rfl (hS126.blk.rangeL 0 2 rfl)), B106, cap107, ms108, B109, cap110, cs111, l112, rfl, (TabG.mono hTG128 hb104.size), hTS114, hTn115, k129, hlB109, by omega, by omega, hb127⟩
theorem gf_32 : goFn Try.prog 32 = true := by kernel_rfl
theorem gf_41 : goFn Try.prog 41 = true := by kernel_rfl
theorem gf_43 : goFn Try.prog 43 = true := by kernel_rfl
theorem gf_45 : goFn Try.prog 45 = true := by kernel_rfl
theorem law_FnRunLoud (bs : List Int) (a : Option Addr) (c : Nat) (w : World) (hs0 : SlAt w a 1 (bs.map bcell)) (hb : ∀ b ∈ bs, 0 ≤ b ∧ b ≤ 255) (hn : bs.length ≤ 9223372036854775807) (hc : bs.length ≤ c) : CallsR Try.prog 10 #[.slice a bs.length c] w (fun v w' => v = .bool true ∧ w.grownBy w' none) := by
 refine calls_of_wpf (n := 74) Try.func10 rfl Try.ntmps10 rfl ?_
 have hb0 := World.grownBy.refl w none
 have hs := SlAt.lt wide_b (by omega) hs0
 refine wpf_seq_region ?_
 refine wpo_assign (v := .bool false) rfl rfl ?_
 refine wpo_nil ?_
 refine wpf_seq ?_
 refine wpf_seq_region ?_
 refine wpo_move (v := .slice a bs.length c) rfl rfl ?_
 refine wpo_len (by kernel_rfl) rfl rfl ?_
 refine wpo_gtr (q := decide (1048576 < (bs.length : Int))) rfl rfl rfl rfl ?_
 refine wpo_nil ?_
 refine wpf_cond rfl (fun h101 => ?_) (fun h101 => ?_)
 ·
  have h102 := of_decide_eq_true h101
  refine wpf_seq_region ?_
  refine wpo_assign (v := .bool true) rfl rfl ?_
  refine wpo_nil ?_
  refine wpf_ret ?_
  refine thn_r ?_
  refine ⟨.bool true, res1 rfl rfl, ?_, hb0⟩
  rfl
 ·
  have h103 := of_decide_eq_false h101
  refine wpf_skip ?_
  refine thn_n ?_
  refine wpf_seq_region ?_
  refine wpo_move (v := .slice a bs.length c) rfl rfl ?_
  refine wpo_call (vs := [.slice a bs.length c]) gf_45 (args_cons rfl args_nil) rfl (DrawRunQuiet_c bs a c _ (SlAt.low hs0 hb0) hb (by omega) (by omega)) ?_
  rintro _ w119 ⟨B104, cap105, ms106, B107, cap108, cs109, l110, rfl, hTG111, hTS112, hTn113, hO114, hge115, hcl116, hd117, hg118⟩
  have hb120 := low0 hb0 hg118
  have hTl121 := hTS112.len
  have hlB107 := Nat.le_trans hb0.size hge115
  refine wpo_move (v := .tuple #[.slice (some ⟨B104, 0, none⟩) ms106.length cap105, .slice (some ⟨B107, 0, none⟩) cs109.length cap108, .agg #[.int .i64 l110.s, .int .i64 l110.v]]) rfl rfl ?_
  refine wpo_extract (v := .slice (some ⟨B104, 0, none⟩) ms106.length cap105) rfl rfl rfl ?_
  refine wpo_extract (v := .slice (some ⟨B107, 0, none⟩) cs109.length cap108) rfl rfl rfl ?_
  refine wpo_extract (v := .agg #[.int .i64 l110.s, .int .i64 l110.v]) rfl rfl rfl ?_
  refine wpo_alloc (cs := #[.int .i64 0, .int .i64 0]) zt_40 rfl rfl ?_
  intro B122 w123 hN124
  have hlB122 := hN_ge hN124 hb120
  have lt_B107_B122 := hN_gtl hN124 (hO114).lt
  have hb125 := low0 hb120 hN124.grw
  refine wpo_assign (v := .slice (some ⟨B104, 0, none⟩) ms106.length cap105) rfl rfl ?_
  refine wpo_assign (v := .slice (some ⟨B107, 0, none⟩) cs109.length cap108) rfl rfl ?_
  refine wpo_storen (vs := [.int .i64 l110.s, .int .i64 l110.v]) (cs' := #[.int .i64 l110.s, .int .i64 l110.v]) rt_40 rfl rfl rfl (by simp [Value.oneCell']) hN124.blk (Nat.le_of_ble_eq_true rfl) rfl ?_
  intro w126 hS127
  have hb128 := low1 hb125 hS127.grw (by omega)
  refine wpo_nil ?_
  refine wpf_seq_region ?_
  refine wpo_move (v := .slice (some ⟨B104, 0, none⟩) ms106.length cap105) rfl rfl ?_
  refine wpo_move (v := .slice (some ⟨B107, 0, none⟩) cs109.length cap108) rfl rfl ?_
  refine wpo_loadn (vs := [.int .i64 l110.s, .int .i64 l110.v]) rt_40 rfl rfl (hS127.blk.rangeL 0 2 rfl) rfl ?_
  have k129 := ((hO114.grown0 hN124.grw).grown hS127.grw (some_ne (by omega)))
  refine wpo_call (vs := [.slice (some ⟨B104, 0, none⟩) ms106.length cap105, .slice (some ⟨B107, 0, none⟩) cs109.length cap108, .agg #[.int .i64 l110.s, .int .i64 l110.v]]) gf_43 (args_cons rfl (args_cons rfl (args_cons rfl args_nil))) rfl (RunQuiet_c l110 _ ms106 _ _ (TabG.at (TabG.low hTG111 (low1 hN124.grw hS127.grw (Nat.le_trans ((World.grownBy.refl _ none)).size (Nat.le_of_eq hN124.eq.symm))))) hTl121 (by omega) cs109 _ _ (Own.sl wide_cl k129) (by first | omega | exact Nat.le_of_ble_eq_true rfl | (simp only [List.length_nil, List.length_cons, List.length_append, List.length_replicate]; omega))) ?_
  rintro _ w130 ⟨rfl, hg131⟩
  have hb132 := low0 hb128 hg131
  refine wpo_assign (v := .bool (runQuiet (tabT ms106) cs109 l110)) rfl rfl ?_
  refine wpo_nil ?_
  refine wpf_seq ?_
  refine wpf_seq_region_mid (fun f' w' => (f' 2 = .bool false ∧ f' 3 = .slice (some ⟨B104, 0, none⟩) ms106.length cap105 ∧ f' 4 = .slice (some ⟨B107, 0, none⟩) cs109.length cap108 ∧ f' 5 = .pointer (some ⟨B122, 0, none⟩) ∧ f' 6 = .bool (runQuiet (tabT ms106) cs109 l110) ∧ f' 36 = .bool ((false || (!runQuiet (tabT ms106) cs109 l110)) || (decide ((cs109.length : Int) = 40)))) ∧ w130.grownBy w' none) ?_ ?_
  ·
   refine wpo_move (v := .bool (runQuiet (tabT ms106) cs109 l110)) rfl rfl ?_
   refine wpo_move (v := .slice (some ⟨B104, 0, none⟩) ms106.length cap105) rfl rfl ?_
   refine wpo_move (v := .slice (some ⟨B107, 0, none⟩) cs109.length cap108) rfl rfl ?_
   have k143 := (hS127.blk.grown0 hg131)
   refine wpo_loadn (vs := [.int .i64 l110.s, .int .i64 l110.v]) rt_40 rfl rfl (k143.rangeL 0 2 rfl) rfl ?_
   have k144 := (k129.grown0 hg131)
   refine wpo_call (vs := [.slice (some ⟨B104, 0, none⟩) ms106.length cap105, .slice (some ⟨B107, 0, none⟩) cs109.length cap108, .agg #[.int .i64 l110.s, .int .i64 l110.v]]) gf_41 (args_cons rfl (args_cons rfl (args_cons rfl args_nil))) rfl (sRunQuiet_c l110 _ ms106 _ _ (TabG.at (TabG.low hTG111 (low0 (low1 hN124.grw hS127.grw (Nat.le_trans ((World.grownBy.refl _ none)).size (Nat.le_of_eq hN124.eq.symm))) hg131))) hTl121 (by omega) cs109 _ _ (Own.sl wide_cl k144) (by first | omega | exact Nat.le_of_ble_eq_true rfl | (simp only [List.length_nil, List.length_cons, List.length_append, List.length_replicate]; omega))) ?_
   rintro _ w145 ⟨rfl, hg146⟩
   have hb147 := low0 hb132 hg146
   refine wpo_neqb (q := false) (by kernel_rfl) rfl rfl (by simp) rfl ?_
   refine wpo_move (v := .bool false) rfl rfl ?_
   refine wpo_run rfl rfl rfl rfl ?_
   refine wpo_move (v := .bool (runQuiet (tabT ms106) cs109 l110)) rfl rfl ?_
   refine wpo_run rfl rfl rfl rfl ?_
   refine wpo_not (b' := !runQuiet (tabT ms106) cs109 l110) rfl rfl rfl ?_
   refine wpo_pickf (v := .bool (!runQuiet (tabT ms106) cs109 l110)) rfl rfl rfl rfl ?_
   refine wpo_move (v := .bool (!runQuiet (tabT ms106) cs109 l110)) rfl rfl ?_
   rcases bcases (!runQuiet (tabT ms106) cs109 l110) with h148 | h148
   ·
    have h149 := nt_t h148
    iterate 3 refine wpo_pass rfl rfl rfl h148 rfl ?_
    refine wpo_pickt (v := .bool true) rfl h148 rfl rfl ?_
    exact wpo_nil ⟨⟨rfl, rfl, rfl, rfl, rfl, (congrArg Value.bool (by first | (simp only [h101, h148, h149, b0, b1, b2, b3, b4, b5, b6, b7, b8, b9]; done) | simp [h101, h148, h149]))⟩, hg146⟩
   ·
    have h150 := nt_f h148
    refine wpo_run rfl rfl rfl h148 ?_
    refine wpo_move (v := .slice (some ⟨B107, 0, none⟩) cs109.length cap108) rfl rfl ?_
    refine wpo_run rfl rfl rfl h148 ?_
    refine wpo_len (by kernel_rfl) rfl rfl ?_
    refine wpo_run rfl rfl rfl h148 ?_
    refine wpo_eql (q := decide ((cs109.length : Int) = 40)) rfl rfl rfl rfl ?_
    refine wpo_pickf (v := .bool (decide ((cs109.length : Int) = 40))) rfl h148 rfl rfl ?_
    exact wpo_nil ⟨⟨rfl, rfl, rfl, rfl, rfl, (congrArg Value.bool (by first | (simp only [h101, h148, h150, b0, b1, b2, b3, b4, b5, b6, b7, b8, b9]; done) | simp [h101, h148, h150]))⟩, hg146⟩
  ·
   rintro f151 w152 ⟨⟨e153, e154, e155, e156, e157, e158⟩, hg159⟩
   have hb160 := low0 hb132 hg159
   refine wpf_cond e158 (fun h161 => ?_) (fun h161 => ?_)
   ·
    refine wpf_seq_region ?_
    refine wpo_move (v := .bool (runQuiet (tabT ms106) cs109 l110)) e157 rfl ?_
    refine wpo_move (v := .slice (some ⟨B104, 0, none⟩) ms106.length cap105) e154 rfl ?_
    refine wpo_move (v := .slice (some ⟨B107, 0, none⟩) cs109.length cap108) e155 rfl ?_
    have k162 := ((hS127.blk.grown0 hg131).grown0 hg159)
    refine wpo_loadn (vs := [.int .i64 l110.s, .int .i64 l110.v]) rt_40 e156 rfl (k162.rangeL 0 2 rfl) rfl ?_
    have k163 := ((k129.grown0 hg131).grown0 hg159)
    refine wpo_call (vs := [.slice (some ⟨B104, 0, none⟩) ms106.length cap105, .slice (some ⟨B107, 0, none⟩) cs109.length cap108, .agg #[.int .i64 l110.s, .int .i64 l110.v]]) gf_41 (args_cons rfl (args_cons rfl (args_cons rfl args_nil))) rfl (sRunQuiet_c l110 _ ms106 _ _ (TabG.at (TabG.low hTG111 (low0 (low0 (low1 hN124.grw hS127.grw (Nat.le_trans ((World.grownBy.refl _ none)).size (Nat.le_of_eq hN124.eq.symm))) hg131) hg159))) hTl121 (by omega) cs109 _ _ (Own.sl wide_cl k163) (by first | omega | exact Nat.le_of_ble_eq_true rfl | (simp only [List.length_nil, List.length_cons, List.length_append, List.length_replicate]; omega))) ?_
    rintro _ w164 ⟨rfl, hg165⟩
    have hb166 := low0 hb160 hg165
    refine wpo_eqlb (q := true) (by kernel_rfl) rfl rfl (by simp) rfl ?_
    refine wpo_assign (v := .bool true) rfl rfl ?_
    refine wpo_nil ?_
    refine wpf_ret ?_
    refine thn_r ?_
    refine ⟨.bool true, res1 rfl rfl, ?_, hb166⟩
    rfl
   ·
    have h167 := or_l h161
    have h168 := or_l h167
    have h169 := or_r h167
    have h170 := nt_f h169
    have h171 := or_r h161
    have h172 := of_decide_eq_false h171
    refine wpf_skip ?_
    refine thn_n ?_
    refine wpf_seq ?_
    refine wpf_seq_region ?_
    refine wpo_assign (v := .int .i64 1) rfl rfl ?_
    refine wpo_nil ?_
    refine wpf_block ?_
    obtain ⟨hi, hhi⟩ : ∃ n, n = w152.heap.size := ⟨_, rfl⟩
    have hTG173 := (TabG.low hTG111 (low0 (low0 (low1 hN124.grw hS127.grw (Nat.le_trans ((World.grownBy.refl _ none)).size (Nat.le_of_eq hN124.eq.symm))) hg131) hg159))
    have hTH := TabG.hi (TabG.low hTG111 (low0 (low0 (low1 hN124.grw hS127.grw (Nat.le_trans ((World.grownBy.refl _ none)).size (Nat.le_of_eq hN124.eq.symm))) hg131) hg159))
    rw [← hhi] at hTH
    have k174 := ((k129.grown0 hg131).grown0 hg159)
    have k175 := ((hS127.blk.grown0 hg131).grown0 hg159)
    refine wpf_loopN (fun mm f' w' => ∃ (k : Nat), mm = ms106.length + 1 - k ∧ (1 ≤ k ∧ k ≤ ms106.length + 1) ∧ TabG w.heap.size w' (some ⟨B104, 0, none⟩) ms106 ∧ hi ≤ w'.heap.size ∧ f' 7 = .int .i64 (k : Int) ∧ f' 3 = .slice (some ⟨B104, 0, none⟩) ms106.length cap105 ∧ f' 4 = .slice (some ⟨B107, 0, none⟩) cs109.length cap108 ∧ f' 5 = .pointer (some ⟨B122, 0, none⟩) ∧ w.grownBy w' none ∧ Dw.Own w' B107 76 5 cap108 cs109.length (cs109.flatMap Cl.cells) ∧ Blk w' B122 40 #[.int .i64 l110.s, .int .i64 l110.v]) (ms106.length + 1 - 1) ⟨1, rfl, (by omega), hTG173, (Nat.le_of_eq hhi), rfl, e154, e155, e156, hb160, k174, k175⟩ ?_
    rintro mm f176 w177 ⟨k, hm179, hk, hGl, hhs, e180, e181, e182, e183, hb178, k184, k185⟩
    refine wpf_seq ?_
    refine wpf_seq_region ?_
    refine wpo_move (v := .int .i64 (k : Int)) e180 rfl ?_
    refine wpo_move (v := .slice (some ⟨B104, 0, none⟩) ms106.length cap105) e181 rfl ?_
    refine wpo_len (by kernel_rfl) rfl rfl ?_
    refine wpo_leq (q := decide ((k : Int) ≤ (ms106.length : Int))) rfl rfl rfl rfl ?_
    refine wpo_nil ?_
    refine wpf_cond rfl (fun h186 => ?_) (fun h186 => ?_)
    ·
     have h187 := of_decide_eq_true h186
     refine wpf_skip ?_
     refine thn_n ?_
     refine wpf_seq ?_
     refine wpf_block ?_
     refine wpf_seq_region ?_
     refine wpo_buildSlice (ps := []) (e := 76) (cs := (([] : List Cl).flatMap Cl.cells).toArray) parts_nil (fun _ => by kernel_rfl) rfl ?_
     intro B188 w189 hN190
     have hlB188 := hN_ge hN190 hb178
     have hhiB188 : hi ≤ B188 := Nat.le_trans hhs (Nat.le_of_eq hN190.eq.symm)
     have lt_B107_B188 := hN_gtl hN190 (k184).lt
     have lt_B122_B188 := hN_gtl hN190 (k185).lt
     have hb191 := low0 hb178 hN190.grw
     refine wpo_move (v := .slice (some ⟨B107, 0, none⟩) cs109.length cap108) e182 rfl ?_
     have k192 := (k184.grown0 hN190.grw)
     have k193 := (k185.grown0 hN190.grw)
     refine wpo_append (g := Cl.cells) (ys := ([] : List Cl)) (zs := cs109) mk_69 rfl wide_cl (by omega) onec_cl rfl rfl (Own.rows wide_cl hN190.blk (by simp)) (Own.sl wide_cl k192) (by simp only [List.length_cons, List.length_nil]; omega) (by omega) rfl ?_
     intro B194 cap195 w196 hO197 hg198 hor199
     have hlB194 : w.heap.size ≤ B194 := by rcases hor199 with h | h; (rw [h]; exact hlB188); (rw [h]; exact hb191.size)
     have hhiB194 : hi ≤ B194 := by rcases hor199 with h | h; (rw [h]; exact hhiB188); (rw [h]; exact (Nat.le_trans hhs hN190.grw.size))
     have ne_B107_B194 : B107 ≠ B194 := by have h := (k192).lt; omega
     have ne_B122_B194 : B122 ≠ B194 := by have h := (k193).lt; omega
     have hb200 := low1 hb191 hg198 (by omega)
     refine wpo_move (v := .int .i64 (k : Int)) e180 rfl ?_
     refine wpo_build (ps := [(0, .int .i64 9), (1, .int .i64 (k : Int))]) (v := .agg #[.int .i64 9, .int .i64 (k : Int), .int .i64 0, .int .i64 0, .int .i64 0]) (parts_cons rfl (parts_cons rfl parts_nil)) (by kernel_rfl) rfl ?_
     refine wpo_buildSlice (ps := [(0, .agg #[.int .i64 9, .int .i64 (k : Int), .int .i64 0, .int .i64 0, .int .i64 0])]) (e := 76) (cs := (([⟨9, (k : Int), 0, 0, 0⟩] : List Cl).flatMap Cl.cells).toArray) (parts_cons rfl parts_nil) (fun _ => by kernel_rfl) rfl ?_
     intro B201 w202 hN203
     have hlB201 := hN_ge hN203 hb200
     have hhiB201 : hi ≤ B201 := Nat.le_trans (Nat.le_trans (Nat.le_trans hhs hN190.grw.size) hg198.size) (Nat.le_of_eq hN203.eq.symm)
     have k204 := (k192.grown hg198 (some_ne (by omega)))
     have lt_B107_B201 := hN_gtl hN203 (k204).lt
     have k205 := (k193.grown hg198 (some_ne (by omega)))
     have lt_B122_B201 := hN_gtl hN203 (k205).lt
     have lt_B194_B201 := hN_gtl hN203 (hO197).lt
     have hb206 := low0 hb200 hN203.grw
     have k207 := (hO197.grown0 hN203.grw)
     have k208 := (k204.grown0 hN203.grw)
     have k209 := (k205.grown0 hN203.grw)
     refine wpo_append (g := Cl.cells) (ys := cs109) (zs := ([⟨9, (k : Int), 0, 0, 0⟩] : List Cl)) mk_69 rfl wide_cl (by omega) onec_cl rfl rfl k207 (rows_sl wide_cl hN203.blk) (by simp only [List.length_cons, List.length_nil]; omega) (by omega) rfl ?_
     intro B210 cap211 w212 hO213 hg214 hor215
     have hlB210 : w.heap.size ≤ B210 := by rcases hor215 with h | h; (rw [h]; exact hlB194); (rw [h]; exact hb206.size)
     have hhiB210 : hi ≤ B210 := by rcases hor215 with h | h; (rw [h]; exact hhiB194); (rw [h]; exact (Nat.le_trans (Nat.le_trans (Nat.le_trans hhs hN190.grw.size) hg198.size) hN203.grw.size))
     have ne_B107_B210 : B107 ≠ B210 := by have h := (k208).lt; omega
     have ne_B122_B210 : B122 ≠ B210 := by have h := (k209).lt; omega
     have ne_B201_B210 : B201 ≠ B210 := by have h := (hN203.blk).lt; omega
     have hb216 := low1 hb206 hg214 (by omega)
     refine wpo_assign (v := .slice (some ⟨B210, 0, none⟩) ((cs109 ++ ([⟨9, (k : Int), 0, 0, 0⟩] : List Cl)).length) cap211) rfl rfl ?_
     refine wpo_nil ?_
     refine wpf_seq_mid (fun f' w' => (f' 3 = .slice (some ⟨B104, 0, none⟩) ms106.length cap105 ∧ f' 4 = .slice (some ⟨B107, 0, none⟩) cs109.length cap108 ∧ f' 5 = .pointer (some ⟨B122, 0, none⟩) ∧ f' 7 = .int .i64 (k : Int) ∧ f' 73 = .bool ((decide ((mAt ms106 (((k : Int) - 1).toNat)).t.kind = 3)) && (decide (runQuiet (tabT ms106) (cs109 ++ ([⟨9, (k : Int), 0, 0, 0⟩] : List Cl)) l110 = viewHigh (tabT ms106) (k : Int) l110)))) ∧ w212.grownBy w' none) ?_ ?_
     ·
      rcases bcases (decide ((mAt ms106 (((k : Int) - 1).toNat)).t.kind = 3)) with h256 | h256
      ·
       have h257 := of_decide_eq_true h256
       have hTG285 := (TabG.ge (TabG.low (TabG.ge (TabG.low hGl hN190.grw) hg198 hTH (by omega)) hN203.grw) hg214 hTH (by omega))
       obtain ⟨b279, q280, o281, ha282, ho283, hr284⟩ := SlAt.at (TabG.at hTG285).1 (map_get (mAt_get (show ((k : Int) - 1).toNat < ms106.length by omega)))
       have hle286 := TabLen.at hTl121 (mAt_get (show ((k : Int) - 1).toNat < ms106.length by omega))
       refine wpf_draw (m := 15) (vals := [(56, .slice (some ⟨B104, 0, none⟩) ms106.length cap105), (57, .int .i64 (k : Int)), (58, .int .i64 ((k : Int) - 1)), (59, .pointer (some ⟨b279, o281, none⟩)), (60, .pointer (some ⟨b279, o281, none⟩)), (61, .int .i64 ((mAt ms106 (((k : Int) - 1).toNat)).t.kind)), (62, .bool (decide ((mAt ms106 (((k : Int) - 1).toNat)).t.kind = 3))), (63, .bool (decide ((mAt ms106 (((k : Int) - 1).toNat)).t.kind = 3))), (64, .slice (some ⟨B104, 0, none⟩) ms106.length cap105), (65, .slice (some ⟨B210, 0, none⟩) ((cs109 ++ ([⟨9, (k : Int), 0, 0, 0⟩] : List Cl)).length) cap211), (66, .agg #[.int .i64 l110.s, .int .i64 l110.v]), (67, .bool (runQuiet (tabT ms106) (cs109 ++ ([⟨9, (k : Int), 0, 0, 0⟩] : List Cl)) l110)), (68, .slice (some ⟨B104, 0, none⟩) ms106.length cap105), (69, .int .i64 (k : Int)), (70, .agg #[.int .i64 l110.s, .int .i64 l110.v])]) (fun w' => w212.grownBy w' none) mixed_ (by kernel_rfl) (grown_drew _) ?_ ?_
       ·
        refine yll_cons rfl (fun w302 hi303 => ?_) ?_
        ·
         have hb304 := low0 hb216 hi303
         refine wpo_move (v := .slice (some ⟨B104, 0, none⟩) ms106.length cap105) e181 rfl ?_
         exact wpo_nil ⟨rfl, hi303⟩
        refine yll_cons rfl (fun w305 hi306 => ?_) ?_
        ·
         have hb307 := low0 hb216 hi306
         refine wpo_move (v := .int .i64 (k : Int)) e180 rfl ?_
         exact wpo_nil ⟨rfl, hi306⟩
        refine yll_cons rfl (fun w308 hi309 => ?_) ?_
        ·
         have hb310 := low0 hb216 hi309
         refine wpo_sub (c := (k : Int) - 1) rfl rfl (by omega) (by omega) (by omega) rfl ?_
         exact wpo_nil ⟨rfl, hi309⟩
        refine yll_cons rfl (fun w311 hi312 => ?_) ?_
        ·
         have hb313 := low0 hb216 hi312
         refine wpo_indexE es_54 rfl rfl ha282 ho283 (by omega) (by omega) rfl ?_
         exact wpo_nil ⟨rfl, hi312⟩
        refine yll_cons rfl (fun w314 hi315 => ?_) ?_
        ·
         have hb316 := low0 hb216 hi315
         refine wpo_fieldAddr (o' := o281) fo_45_0 rfl rfl rfl ?_
         exact wpo_nil ⟨rfl, hi315⟩
        refine yll_cons rfl (fun w317 hi318 => ?_) ?_
        ·
         have hb319 := low0 hb216 hi318
         refine wpo_load1 (v := .int .i64 ((mAt ms106 (((k : Int) - 1).toNat)).t.kind)) ot_3 rfl ((range_low hr284 hi318) 0 _ rfl) rfl ?_
         exact wpo_nil ⟨rfl, hi318⟩
        refine yll_cons rfl (fun w320 hi321 => ?_) ?_
        ·
         have hb322 := low0 hb216 hi321
         refine wpo_eql (q := decide ((mAt ms106 (((k : Int) - 1).toNat)).t.kind = 3)) rfl rfl rfl rfl ?_
         exact wpo_nil ⟨rfl, hi321⟩
        refine yll_cons rfl (fun w323 hi324 => ?_) ?_
        ·
         have hb325 := low0 hb216 hi324
         refine wpo_move (v := .bool (decide ((mAt ms106 (((k : Int) - 1).toNat)).t.kind = 3))) rfl rfl ?_
         exact wpo_nil ⟨rfl, hi324⟩
        refine yll_cons rfl (fun w326 hi327 => ?_) ?_
        ·
         have hb328 := low0 hb216 hi327
         refine wpo_run rfl rfl rfl h256 ?_
         refine wpo_move (v := .slice (some ⟨B104, 0, none⟩) ms106.length cap105) e181 rfl ?_
         exact wpo_nil ⟨rfl, hi327⟩
        refine yll_cons rfl (fun w329 hi330 => ?_) ?_
        ·
         have hb331 := low0 hb216 hi330
         refine wpo_run rfl rfl rfl h256 ?_
         refine wpo_move (v := .slice (some ⟨B210, 0, none⟩) ((cs109 ++ ([⟨9, (k : Int), 0, 0, 0⟩] : List Cl)).length) cap211) rfl rfl ?_
         exact wpo_nil ⟨rfl, hi330⟩
        refine yll_cons rfl (fun w332 hi333 => ?_) ?_
        ·
         have hb334 := low0 hb216 hi333
         refine wpo_run rfl rfl rfl h256 ?_
         have k335 := ((k209.grown hg214 (some_ne (by omega))).grown0 hi333)
         refine wpo_loadn (vs := [.int .i64 l110.s, .int .i64 l110.v]) rt_40 e183 rfl (k335.rangeL 0 2 rfl) rfl ?_
         exact wpo_nil ⟨rfl, hi333⟩
        refine yll_cons rfl (fun w336 hi337 => ?_) ?_
        ·
         have hb338 := low0 hb216 hi337
         refine wpo_run rfl rfl rfl h256 ?_
         have hTG339 := (TabG.low hTG285 hi337)
         have k340 := (hO213.grown0 hi337)
         refine wpo_call (vs := [.slice (some ⟨B104, 0, none⟩) ms106.length cap105, .slice (some ⟨B210, 0, none⟩) ((cs109 ++ ([⟨9, (k : Int), 0, 0, 0⟩] : List Cl)).length) cap211, .agg #[.int .i64 l110.s, .int .i64 l110.v]]) gf_43 (args_cons rfl (args_cons rfl (args_cons rfl args_nil))) rfl (RunQuiet_c l110 _ ms106 _ _ (TabG.at hTG339) hTl121 (by omega) (cs109 ++ ([⟨9, (k : Int), 0, 0, 0⟩] : List Cl)) _ _ (Own.sl wide_cl k340) (by first | omega | exact Nat.le_of_ble_eq_true rfl | (simp only [List.length_nil, List.length_cons, List.length_append, List.length_replicate]; omega))) ?_
         rintro _ w341 ⟨rfl, hg342⟩
         have hb343 := low0 hb338 hg342
         exact wpo_nil ⟨rfl, (grown_trans hi337 hg342)⟩
        refine yll_cons rfl (fun w344 hi345 => ?_) ?_
        ·
         have hb346 := low0 hb216 hi345
         refine wpo_run rfl rfl rfl h256 ?_
         refine wpo_move (v := .slice (some ⟨B104, 0, none⟩) ms106.length cap105) e181 rfl ?_
         exact wpo_nil ⟨rfl, hi345⟩
        refine yll_cons rfl (fun w347 hi348 => ?_) ?_
        ·
         have hb349 := low0 hb216 hi348
         refine wpo_run rfl rfl rfl h256 ?_
         refine wpo_move (v := .int .i64 (k : Int)) e180 rfl ?_
         exact wpo_nil ⟨rfl, hi348⟩
        refine yll_cons rfl (fun w350 hi351 => ?_) ?_
        ·
         have hb352 := low0 hb216 hi351
         refine wpo_run rfl rfl rfl h256 ?_
         have k353 := ((k209.grown hg214 (some_ne (by omega))).grown0 hi351)
         refine wpo_loadn (vs := [.int .i64 l110.s, .int .i64 l110.v]) rt_40 e183 rfl (k353.rangeL 0 2 rfl) rfl ?_
         exact wpo_nil ⟨rfl, hi351⟩
        exact yll_nil
       ·
        intro w354 hi355
        have hb356 := low0 hb216 hi355
        refine wpo_run rfl rfl rfl h256 ?_
        have hTG357 := (TabG.low hTG285 hi355)
        refine wpo_call (vs := [.slice (some ⟨B104, 0, none⟩) ms106.length cap105, .int .i64 (k : Int), .agg #[.int .i64 l110.s, .int .i64 l110.v]]) gf_32 (args_cons rfl (args_cons rfl (args_cons rfl args_nil))) rfl (ViewHigh_c (k : Int) l110 (by omega) _ ms106 _ _ (TabG.at hTG357) hTl121 (by omega)) ?_
        rintro _ w358 ⟨rfl, hg359⟩
        have hb360 := low0 hb356 hg359
        refine wpo_run rfl rfl rfl h256 ?_
        refine wpo_eqlb (q := decide (runQuiet (tabT ms106) (cs109 ++ ([⟨9, (k : Int), 0, 0, 0⟩] : List Cl)) l110 = viewHigh (tabT ms106) (k : Int) l110)) (by kernel_rfl) rfl rfl rfl rfl ?_
        refine wpo_pickt (v := .bool (decide (runQuiet (tabT ms106) (cs109 ++ ([⟨9, (k : Int), 0, 0, 0⟩] : List Cl)) l110 = viewHigh (tabT ms106) (k : Int) l110))) rfl h256 rfl rfl ?_
        exact wpo_nil (thn_n ⟨⟨e181, e182, e183, e180, (congrArg Value.bool (by first | (simp only [h101, h161, h167, h168, h169, h170, h171, h186, h256, b0, b1, b2, b3, b4, b5, b6, b7, b8, b9]; done) | simp [h101, h161, h167, h168, h169, h170, h171, h186, h256]))⟩, (grown_trans hi355 hg359)⟩)
      ·
       have h361 := of_decide_eq_false h256
       have hTG380 := (TabG.ge (TabG.low (TabG.ge (TabG.low hGl hN190.grw) hg198 hTH (by omega)) hN203.grw) hg214 hTH (by omega))
       obtain ⟨b374, q375, o376, ha377, ho378, hr379⟩ := SlAt.at (TabG.at hTG380).1 (map_get (mAt_get (show ((k : Int) - 1).toNat < ms106.length by omega)))
       have hle381 := TabLen.at hTl121 (mAt_get (show ((k : Int) - 1).toNat < ms106.length by omega))
       refine wpf_draw (m := 15) (vals := [(56, .slice (some ⟨B104, 0, none⟩) ms106.length cap105), (57, .int .i64 (k : Int)), (58, .int .i64 ((k : Int) - 1)), (59, .pointer (some ⟨b374, o376, none⟩)), (60, .pointer (some ⟨b374, o376, none⟩)), (61, .int .i64 ((mAt ms106 (((k : Int) - 1).toNat)).t.kind)), (62, .bool (decide ((mAt ms106 (((k : Int) - 1).toNat)).t.kind = 3))), (63, .bool (decide ((mAt ms106 (((k : Int) - 1).toNat)).t.kind = 3))), (64, undef), (65, undef), (66, undef), (67, undef), (68, undef), (69, undef), (70, undef)]) (fun w' => w212.grownBy w' none) mixed_ (by kernel_rfl) (grown_drew _) ?_ ?_
       ·
        refine yll_cons rfl (fun w382 hi383 => ?_) ?_
        ·
         have hb384 := low0 hb216 hi383
         refine wpo_move (v := .slice (some ⟨B104, 0, none⟩) ms106.length cap105) e181 rfl ?_
         exact wpo_nil ⟨rfl, hi383⟩
        refine yll_cons rfl (fun w385 hi386 => ?_) ?_
        ·
         have hb387 := low0 hb216 hi386
         refine wpo_move (v := .int .i64 (k : Int)) e180 rfl ?_
         exact wpo_nil ⟨rfl, hi386⟩
        refine yll_cons rfl (fun w388 hi389 => ?_) ?_
        ·
         have hb390 := low0 hb216 hi389
         refine wpo_sub (c := (k : Int) - 1) rfl rfl (by omega) (by omega) (by omega) rfl ?_
         exact wpo_nil ⟨rfl, hi389⟩
        refine yll_cons rfl (fun w391 hi392 => ?_) ?_
        ·
         have hb393 := low0 hb216 hi392
         refine wpo_indexE es_54 rfl rfl ha377 ho378 (by omega) (by omega) rfl ?_
         exact wpo_nil ⟨rfl, hi392⟩
        refine yll_cons rfl (fun w394 hi395 => ?_) ?_
        ·
         have hb396 := low0 hb216 hi395
         refine wpo_fieldAddr (o' := o376) fo_45_0 rfl rfl rfl ?_
         exact wpo_nil ⟨rfl, hi395⟩
        refine yll_cons rfl (fun w397 hi398 => ?_) ?_
        ·
         have hb399 := low0 hb216 hi398
         refine wpo_load1 (v := .int .i64 ((mAt ms106 (((k : Int) - 1).toNat)).t.kind)) ot_3 rfl ((range_low hr379 hi398) 0 _ rfl) rfl ?_
         exact wpo_nil ⟨rfl, hi398⟩
        refine yll_cons rfl (fun w400 hi401 => ?_) ?_
        ·
         have hb402 := low0 hb216 hi401
         refine wpo_eql (q := decide ((mAt ms106 (((k : Int) - 1).toNat)).t.kind = 3)) rfl rfl rfl rfl ?_
         exact wpo_nil ⟨rfl, hi401⟩
        refine yll_cons rfl (fun w403 hi404 => ?_) ?_
        ·
         have hb405 := low0 hb216 hi404
         refine wpo_move (v := .bool (decide ((mAt ms106 (((k : Int) - 1).toNat)).t.kind = 3))) rfl rfl ?_
         exact wpo_nil ⟨rfl, hi404⟩
        refine yll_cons rfl (fun w406 hi407 => ?_) ?_
        ·
         have hb408 := low0 hb216 hi407
         refine wpo_pass rfl rfl rfl h256 rfl ?_
         exact wpo_nil ⟨rfl, hi407⟩
        refine yll_cons rfl (fun w409 hi410 => ?_) ?_
        ·
         have hb411 := low0 hb216 hi410
         refine wpo_pass rfl rfl rfl h256 rfl ?_
         exact wpo_nil ⟨rfl, hi410⟩
        refine yll_cons rfl (fun w412 hi413 => ?_) ?_
        ·
         have hb414 := low0 hb216 hi413
         refine wpo_pass rfl rfl rfl h256 rfl ?_
         exact wpo_nil ⟨rfl, hi413⟩
        refine yll_cons rfl (fun w415 hi416 => ?_) ?_
        ·
         have hb417 := low0 hb216 hi416
         refine wpo_pass rfl rfl rfl h256 rfl ?_
         exact wpo_nil ⟨rfl, hi416⟩
        refine yll_cons rfl (fun w418 hi419 => ?_) ?_
        ·
         have hb420 := low0 hb216 hi419
         refine wpo_pass rfl rfl rfl h256 rfl ?_
         exact wpo_nil ⟨rfl, hi419⟩
        refine yll_cons rfl (fun w421 hi422 => ?_) ?_
        ·
         have hb423 := low0 hb216 hi422
         refine wpo_pass rfl rfl rfl h256 rfl ?_
         exact wpo_nil ⟨rfl, hi422⟩
        refine yll_cons rfl (fun w424 hi425 => ?_) ?_
        ·
         have hb426 := low0 hb216 hi425
         refine wpo_pass rfl rfl rfl h256 rfl ?_
         exact wpo_nil ⟨rfl, hi425⟩
        exact yll_nil
       ·
        intro w427 hi428
        have hb429 := low0 hb216 hi428
        refine wpo_pass rfl rfl rfl h256 rfl ?_
        refine wpo_pass rfl rfl rfl h256 rfl ?_
        refine wpo_pickf (v := .bool false) rfl h256 rfl rfl ?_
        exact wpo_nil (thn_n ⟨⟨e181, e182, e183, e180, (congrArg Value.bool (by first | (simp only [h101, h161, h167, h168, h169, h170, h171, h186, h256, b0, b1, b2, b3, b4, b5, b6, b7, b8, b9]; done) | simp [h101, h161, h167, h168, h169, h170, h171, h186, h256]))⟩, hi428⟩)
     ·
      rintro f430 w431 ⟨⟨e432, e433, e434, e435, e436⟩, hg437⟩
      have hb438 := low0 hb216 hg437
      refine wpf_cond e436 (fun h439 => ?_) (fun h439 => ?_)
      ·
       have h440 := and_l h439
       have h441 := of_decide_eq_true h440
       have h442 := and_r h439
       have h443 := of_decide_eq_true h442
       refine wpf_seq_region ?_
       refine wpo_assign (v := .bool false) rfl rfl ?_
       refine wpo_nil ?_
       refine wpf_ret ?_
       refine blk_r ?_
       refine thn_r ?_
       refine thn_r ?_
       refine blk_r ?_
       refine thn_r ?_
       refine ⟨.bool false, res1 rfl rfl, ?_, hb438⟩
       exact absurd h439 (loud_no h170 (by omega) (by omega))
      ·
       refine wpf_skip ?_
       refine blk_n ?_
       refine thn_n ?_
       refine wpf_region ?_
       refine wpo_move (v := .int .i64 (k : Int)) e435 rfl ?_
       refine wpo_add (c := (k : Int) + 1) rfl rfl (by omega) (by omega) (by omega) rfl ?_
       refine wpo_assign (v := .int .i64 ((k : Int) + 1)) rfl rfl ?_
       refine wpo_nil ?_
       refine thn_n ?_
       have hTG444 := (TabG.low (TabG.ge (TabG.low (TabG.ge (TabG.low hGl hN190.grw) hg198 hTH (by omega)) hN203.grw) hg214 hTH (by omega)) hg437)
       have k445 := ((k208.grown hg214 (some_ne (by omega))).grown0 hg437)
       have k446 := ((k209.grown hg214 (some_ne (by omega))).grown0 hg437)
       exact ⟨ms106.length + 1 - (k + 1), by omega, (k + 1), rfl, (by omega), hTG444, (Nat.le_trans (Nat.le_trans (Nat.le_trans (Nat.le_trans (Nat.le_trans hhs hN190.grw.size) hg198.size) hN203.grw.size) hg214.size) hg437.size), rfl, e432, e433, e434, hb438, k445, k446⟩
    ·
     have h447 := of_decide_eq_false h186
     refine wpf_exit ?_
     refine thn_e ?_
     refine thn_e ?_
     refine blk_e ?_
     refine thn_n ?_
     refine wpf_seq_region ?_
     refine wpo_assign (v := .bool true) rfl rfl ?_
     refine wpo_nil ?_
     refine wpf_ret ?_
     refine ⟨.bool true, res1 rfl rfl, ?_, hb178⟩
     rfl
end Go.Proofs.Ytlkmdoebmklbbaa
