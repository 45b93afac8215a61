/- Walks, printed by a program of mine (gen.py) out of the functions. -/
import Derived.Test.YtlkmdoebmklbbaaRL1
namespace Go.Proofs.Ytlkmdoebmklbbaa
open Go.RowKit Go.Dw
set_option maxRecDepth 100000
set_option maxHeartbeats 4000000
set_option linter.unusedSimpArgs false
set_option linter.unusedVariables false
theorem sTableOk_c (w : World) (ms : List MTh) (a : Option Addr) (c : Nat) (ht : TabAt w a ms) (hlen : TabLen ms) (hn : ms.length ≤ 1048576) : CallsR Try.prog 34 #[.slice a ms.length c] w (fun v w' => v = .bool (tableOk (tabT ms)) ∧ w.grownBy w' none) := by
 refine calls_of_wpf (n := 92) Try.func34 rfl Try.ntmps34 rfl ?_
 have hb0 := World.grownBy.refl w none
 refine wpf_seq_region ?_
 refine wpo_assign (v := .bool false) rfl rfl ?_
 refine wpo_nil ?_
 refine wpf_seq ?_
 refine wpf_seq_region ?_
 refine wpo_assign (v := .int .i64 0) rfl rfl ?_
 refine wpo_nil ?_
 refine wpf_block ?_
 refine wpf_loopN (fun mm f' w' => ∃ (k : Nat), mm = ms.length - k ∧ k ≤ ms.length ∧ (((tabT ms).take k).all (rowOk (tabT ms))) = true ∧ f' 3 = .int .i64 (k : Int) ∧ f' 0 = .slice a ms.length c ∧ w.grownBy w' none) (ms.length - 0) ⟨0, rfl, (Nat.zero_le _), rfl, rfl, rfl, hb0⟩ ?_
 rintro mm f101 w102 ⟨k, hm104, hk, hall, e105, e106, hb103⟩
 refine wpf_seq ?_
 refine wpf_seq_region ?_
 refine wpo_move (v := .int .i64 (k : Int)) e105 rfl ?_
 refine wpo_move (v := .slice a ms.length c) e106 rfl ?_
 refine wpo_len (by kernel_rfl) rfl rfl ?_
 refine wpo_lss (q := decide ((k : Int) < (ms.length : Int))) rfl rfl rfl rfl ?_
 refine wpo_nil ?_
 refine wpf_cond rfl (fun h107 => ?_) (fun h107 => ?_)
 ·
  have h108 := of_decide_eq_true h107
  refine wpf_skip ?_
  refine thn_n ?_
  refine wpf_seq ?_
  refine wpf_block ?_
  refine wpf_seq ?_
  refine wpf_seq_region_mid (fun f' w' => (f' 0 = .slice a ms.length c ∧ f' 3 = .int .i64 (k : Int) ∧ f' 48 = .bool ((!thingOk (mAt ms k).t) || ((decide ((mAt ms k).t.kind = 5)) && ((decide ((ms.length : Int) < (mAt ms k).t.to)) || (!(decide ((mAt ms ((((mAt ms k).t.to) - 1).toNat)).t.kind = 1))))))) ∧ w102.grownBy w' none) ?_ ?_
  ·
   refine wpo_move (v := .slice a ms.length c) e106 rfl ?_
   refine wpo_move (v := .int .i64 (k : Int)) e105 rfl ?_
   obtain ⟨b144, q145, o146, ha147, ho148, hr149⟩ := SlAt.at (TabAt.low ht hb103).1 (map_get (mAt_get (show k < ms.length by omega)))
   have hle150 := TabLen.at hlen (mAt_get (show k < ms.length by omega))
   refine wpo_indexE es_54 rfl rfl ha147 ho148 (by omega) (by omega) rfl ?_
   refine wpo_loadn (vs := [.int .i64 ((mAt ms k).t.kind), .int .i64 ((mAt ms k).t.lab.s), .int .i64 ((mAt ms k).t.lab.v), .int .i64 ((mAt ms k).t.ve), .int .i64 ((mAt ms k).t.num), .slice ((mAt ms k).sa) ((mAt ms k).t.slots.length) ((mAt ms k).sc), .slice ((mAt ms k).qa) ((mAt ms k).t.queue.length) ((mAt ms k).qc), .int .i64 ((mAt ms k).t.to)]) rt_45 rfl rfl (range_sub hr149 0 8 rfl) rfl ?_
   refine wpo_call (vs := [.agg #[.int .i64 ((mAt ms k).t.kind), .int .i64 ((mAt ms k).t.lab.s), .int .i64 ((mAt ms k).t.lab.v), .int .i64 ((mAt ms k).t.ve), .int .i64 ((mAt ms k).t.num), .slice ((mAt ms k).sa) ((mAt ms k).t.slots.length) ((mAt ms k).sc), .slice ((mAt ms k).qa) ((mAt ms k).t.queue.length) ((mAt ms k).qc), .int .i64 ((mAt ms k).t.to)]]) gf_67 (args_cons rfl args_nil) rfl (sThingOk_c (mAt ms k) _ (TabAt.th (TabAt.low ht hb103) (mAt_get (show k < ms.length by omega))).1 (TabAt.th (TabAt.low ht hb103) (mAt_get (show k < ms.length by omega))).2.1 (by first | omega | exact Nat.le_of_ble_eq_true rfl | (simp only [List.length_nil, List.length_cons, List.length_append, List.length_replicate]; omega)) (by first | omega | exact Nat.le_of_ble_eq_true rfl | (simp only [List.length_nil, List.length_cons, List.length_append, List.length_replicate]; omega))) ?_
   rintro _ w151 ⟨rfl, hg152⟩
   have hb153 := low0 hb103 hg152
   refine wpo_not (b' := !thingOk (mAt ms k).t) rfl rfl rfl ?_
   refine wpo_move (v := .bool (!thingOk (mAt ms k).t)) rfl rfl ?_
   rcases bcases (!thingOk (mAt ms k).t) with h154 | h154
   ·
    have h155 := nt_t h154
    iterate 7 refine wpo_pass rfl rfl rfl h154 rfl ?_
    iterate 21 refine wpo_passu rfl rfl rfl rfl ?_
    refine wpo_pass rfl rfl rfl h154 rfl ?_
    refine wpo_pickt (v := .bool true) rfl h154 rfl rfl ?_
    exact wpo_nil ⟨⟨e106, e105, (congrArg Value.bool (by first | (simp only [h107, h154, h155, b0, b1, b2, b3, b4, b5, b6, b7, b8, b9]; done) | simp [h107, h154, h155]))⟩, hg152⟩
   ·
    have h156 := nt_f h154
    refine wpo_run rfl rfl rfl h154 ?_
    refine wpo_move (v := .slice a ms.length c) e106 rfl ?_
    refine wpo_run rfl rfl rfl h154 ?_
    refine wpo_move (v := .int .i64 (k : Int)) e105 rfl ?_
    refine wpo_run rfl rfl rfl h154 ?_
    refine wpo_indexE es_54 rfl rfl ha147 ho148 (by omega) (by omega) rfl ?_
    refine wpo_run rfl rfl rfl h154 ?_
    refine wpo_fieldAddr (o' := o146) fo_45_0 rfl rfl rfl ?_
    refine wpo_run rfl rfl rfl h154 ?_
    refine wpo_load1 (v := .int .i64 ((mAt ms k).t.kind)) ot_3 rfl ((range_low hr149 hg152) 0 _ rfl) rfl ?_
    refine wpo_run rfl rfl rfl h154 ?_
    refine wpo_eql (q := decide ((mAt ms k).t.kind = 5)) rfl rfl rfl rfl ?_
    refine wpo_run rfl rfl rfl h154 ?_
    refine wpo_move (v := .bool (decide ((mAt ms k).t.kind = 5))) rfl rfl ?_
    rcases bcases (decide ((mAt ms k).t.kind = 5)) with h157 | h157
    ·
     have hgt158 := th_gate h156 h157
     have h159 := of_decide_eq_true h157
     refine wpo_run rfl rfl rfl h157 ?_
     refine wpo_move (v := .slice a ms.length c) e106 rfl ?_
     refine wpo_run rfl rfl rfl h157 ?_
     refine wpo_move (v := .int .i64 (k : Int)) e105 rfl ?_
     refine wpo_run rfl rfl rfl h157 ?_
     refine wpo_indexE es_54 rfl rfl ha147 ho148 (by omega) (by omega) rfl ?_
     refine wpo_run rfl rfl rfl h157 ?_
     refine wpo_fieldAddr (o' := o146 + 7) fo_45_6 rfl rfl rfl ?_
     refine wpo_run rfl rfl rfl h157 ?_
     refine wpo_load1 (v := .int .i64 ((mAt ms k).t.to)) ot_3 rfl ((range_low hr149 hg152) 7 _ rfl) rfl ?_
     refine wpo_run rfl rfl rfl h157 ?_
     refine wpo_move (v := .slice a ms.length c) e106 rfl ?_
     refine wpo_run rfl rfl rfl h157 ?_
     refine wpo_len (by kernel_rfl) rfl rfl ?_
     refine wpo_run rfl rfl rfl h157 ?_
     refine wpo_gtr (q := decide ((ms.length : Int) < (mAt ms k).t.to)) rfl rfl rfl rfl ?_
     refine wpo_run rfl rfl rfl h157 ?_
     refine wpo_move (v := .bool (decide ((ms.length : Int) < (mAt ms k).t.to))) rfl rfl ?_
     rcases bcases (decide ((ms.length : Int) < (mAt ms k).t.to)) with h160 | h160
     ·
      have h161 := of_decide_eq_true h160
      iterate 11 refine wpo_pass rfl rfl rfl h160 rfl ?_
      refine wpo_run rfl rfl rfl h157 ?_
      refine wpo_pickt (v := .bool true) rfl h160 rfl rfl ?_
      refine wpo_run rfl rfl rfl h154 ?_
      refine wpo_pickt (v := .bool true) rfl h157 rfl rfl ?_
      refine wpo_pickf (v := .bool true) rfl h154 rfl rfl ?_
      exact wpo_nil ⟨⟨e106, e105, (congrArg Value.bool (by first | (simp only [h107, h154, h156, h157, h160, b0, b1, b2, b3, b4, b5, b6, b7, b8, b9]; done) | simp [h107, h154, h156, h157, h160]))⟩, hg152⟩
     ·
      have h162 := of_decide_eq_false h160
      refine wpo_run rfl rfl rfl h160 ?_
      refine wpo_move (v := .slice a ms.length c) e106 rfl ?_
      refine wpo_run rfl rfl rfl h160 ?_
      refine wpo_move (v := .slice a ms.length c) e106 rfl ?_
      refine wpo_run rfl rfl rfl h160 ?_
      refine wpo_move (v := .int .i64 (k : Int)) e105 rfl ?_
      refine wpo_run rfl rfl rfl h160 ?_
      refine wpo_indexE es_54 rfl rfl ha147 ho148 (by omega) (by omega) rfl ?_
      refine wpo_run rfl rfl rfl h160 ?_
      refine wpo_fieldAddr (o' := o146 + 7) fo_45_6 rfl rfl rfl ?_
      refine wpo_run rfl rfl rfl h160 ?_
      refine wpo_load1 (v := .int .i64 ((mAt ms k).t.to)) ot_3 rfl ((range_low hr149 hg152) 7 _ rfl) rfl ?_
      refine wpo_run rfl rfl rfl h160 ?_
      refine wpo_sub (c := ((mAt ms k).t.to) - 1) rfl rfl (by omega) (by omega) (by omega) rfl ?_
      refine wpo_run rfl rfl rfl h160 ?_
      obtain ⟨b165, q166, o167, ha168, ho169, hr170⟩ := SlAt.at (TabAt.low ht hb153).1 (map_get (mAt_get (show (((mAt ms k).t.to) - 1).toNat < ms.length by omega)))
      have hle171 := TabLen.at hlen (mAt_get (show (((mAt ms k).t.to) - 1).toNat < ms.length by omega))
      refine wpo_indexE es_54 rfl rfl ha168 ho169 (by omega) (by omega) rfl ?_
      refine wpo_run rfl rfl rfl h160 ?_
      refine wpo_fieldAddr (o' := o167) fo_45_0 rfl rfl rfl ?_
      refine wpo_run rfl rfl rfl h160 ?_
      refine wpo_load1 (v := .int .i64 ((mAt ms ((((mAt ms k).t.to) - 1).toNat)).t.kind)) ot_3 rfl (hr170 0 _ rfl) rfl ?_
      refine wpo_run rfl rfl rfl h160 ?_
      refine wpo_neq (q := !(decide ((mAt ms ((((mAt ms k).t.to) - 1).toNat)).t.kind = 1))) rfl rfl rfl rfl ?_
      refine wpo_run rfl rfl rfl h157 ?_
      refine wpo_pickf (v := .bool (!(decide ((mAt ms ((((mAt ms k).t.to) - 1).toNat)).t.kind = 1)))) rfl h160 rfl rfl ?_
      refine wpo_run rfl rfl rfl h154 ?_
      refine wpo_pickt (v := .bool (!(decide ((mAt ms ((((mAt ms k).t.to) - 1).toNat)).t.kind = 1)))) rfl h157 rfl rfl ?_
      refine wpo_pickf (v := .bool (!(decide ((mAt ms ((((mAt ms k).t.to) - 1).toNat)).t.kind = 1)))) rfl h154 rfl rfl ?_
      exact wpo_nil ⟨⟨e106, e105, (congrArg Value.bool (by first | (simp only [h107, h154, h156, h157, h160, b0, b1, b2, b3, b4, b5, b6, b7, b8, b9]; done) | simp [h107, h154, h156, h157, h160]))⟩, hg152⟩
    ·
     have h172 := of_decide_eq_false h157
     iterate 9 refine wpo_pass rfl rfl rfl h157 rfl ?_
     iterate 11 refine wpo_passu rfl rfl rfl rfl ?_
     refine wpo_pass rfl rfl rfl h157 rfl ?_
     refine wpo_run rfl rfl rfl h154 ?_
     refine wpo_pickf (v := .bool false) rfl h157 rfl rfl ?_
     refine wpo_pickf (v := .bool false) rfl h154 rfl rfl ?_
     exact wpo_nil ⟨⟨e106, e105, (congrArg Value.bool (by first | (simp only [h107, h154, h156, h157, b0, b1, b2, b3, b4, b5, b6, b7, b8, b9]; done) | simp [h107, h154, h156, h157]))⟩, hg152⟩
  ·
   rintro f173 w174 ⟨⟨e175, e176, e177⟩, hg178⟩
   have hb179 := low0 hb103 hg178
   refine wpf_cond e177 (fun h180 => ?_) (fun h180 => ?_)
   ·
    refine wpf_seq_region ?_
    refine wpo_assign (v := .bool false) rfl rfl ?_
    refine wpo_nil ?_
    refine wpf_ret ?_
    refine thn_r ?_
    refine blk_r ?_
    refine thn_r ?_
    refine thn_r ?_
    refine blk_r ?_
    refine thn_r ?_
    refine ⟨.bool false, res1 rfl rfl, ?_, hb179⟩
    exact congrArg Value.bool (tab_no (by omega) ((row_head rfl).1 h180))
   ·
    have h181 := or_l h180
    have h182 := nt_f h181
    have h183 := or_r h180
    refine wpf_skip ?_
    refine thn_n ?_
    refine wpf_seq_region ?_
    refine wpo_assign (v := .int .i64 0) rfl rfl ?_
    refine wpo_nil ?_
    refine wpf_block ?_
    refine wpf_loopN (fun mm f' w' => ∃ (j : Nat), mm = (mAt ms k).t.slots.length - j ∧ j ≤ (mAt ms k).t.slots.length ∧ (((mAt ms k).t.slots.take j).all (rightTo (tabT ms))) = true ∧ f' 4 = .int .i64 (j : Int) ∧ f' 0 = .slice a ms.length c ∧ f' 3 = .int .i64 (k : Int) ∧ w.grownBy w' none) ((mAt ms k).t.slots.length - 0) ⟨0, rfl, (Nat.zero_le _), rfl, rfl, e175, e176, hb179⟩ ?_
    rintro mm f184 w185 ⟨j, hm187, hj, hrs, e188, e189, e190, hb186⟩
    have hR0 : ∀ j, j < (mAt ms k).t.slots.length → 0 ≤ (rAt (mAt ms k).t.slots j).th ∧ (rAt (mAt ms k).t.slots j).th ≤ 8 := fun j hj => th_right ((row_head rfl).2 h180).1 (rAt_get hj)
    refine wpf_seq ?_
    refine wpf_seq_region ?_
    refine wpo_move (v := .int .i64 (j : Int)) e188 rfl ?_
    refine wpo_move (v := .slice a ms.length c) e189 rfl ?_
    refine wpo_move (v := .int .i64 (k : Int)) e190 rfl ?_
    obtain ⟨b193, q194, o195, ha196, ho197, hr198⟩ := SlAt.at (TabAt.low ht hb186).1 (map_get (mAt_get (show k < ms.length by omega)))
    have hle199 := TabLen.at hlen (mAt_get (show k < ms.length by omega))
    refine wpo_indexE es_54 rfl rfl ha196 ho197 (by omega) (by omega) rfl ?_
    refine wpo_fieldAddr (o' := o195 + 5) fo_45_4 rfl rfl rfl ?_
    refine wpo_load1 (v := .slice ((mAt ms k).sa) ((mAt ms k).t.slots.length) ((mAt ms k).sc)) ot_27 rfl (hr198 5 _ rfl) rfl ?_
    refine wpo_len (by kernel_rfl) rfl rfl ?_
    refine wpo_lss (q := decide ((j : Int) < ((mAt ms k).t.slots.length : Int))) rfl rfl rfl rfl ?_
    refine wpo_nil ?_
    refine wpf_cond rfl (fun h200 => ?_) (fun h200 => ?_)
    ·
     have h201 := of_decide_eq_true h200
     refine wpf_skip ?_
     refine thn_n ?_
     refine wpf_seq ?_
     refine wpf_block ?_
     refine wpf_seq_region ?_
     refine wpo_move (v := .slice a ms.length c) e189 rfl ?_
     refine wpo_move (v := .int .i64 (k : Int)) e190 rfl ?_
     refine wpo_indexE es_54 rfl rfl ha196 ho197 (by omega) (by omega) rfl ?_
     refine wpo_fieldAddr (o' := o195 + 5) fo_45_4 rfl rfl rfl ?_
     refine wpo_load1 (v := .slice ((mAt ms k).sa) ((mAt ms k).t.slots.length) ((mAt ms k).sc)) ot_27 rfl (hr198 5 _ rfl) rfl ?_
     refine wpo_move (v := .int .i64 (j : Int)) e188 rfl ?_
     obtain ⟨b204, q205, o206, ha207, ho208, hr209⟩ := SlAt.at (TabAt.th (TabAt.low ht hb186) (mAt_get (show k < ms.length by omega))).1 (map_get (rAt_get (show j < (mAt ms k).t.slots.length by omega)))
     refine wpo_indexE es_27 rfl rfl ha207 ho208 (by omega) (by omega) rfl ?_
     refine wpo_loadn (vs := [.int .i64 ((rAt (mAt ms k).t.slots j).th), .int .i64 ((rAt (mAt ms k).t.slots j).ve), .bool ((rAt (mAt ms k).t.slots j).rd), .bool ((rAt (mAt ms k).t.slots j).wr), .bool ((rAt (mAt ms k).t.slots j).wk)]) rt_29 rfl rfl (range_sub hr209 0 5 rfl) rfl ?_
     refine wpo_alloc (cs := #[.int .i64 0, .int .i64 0, .bool false, .bool false, .bool false]) zt_29 rfl rfl ?_
     intro B210 w211 hN212
     have hlB210 := hN_ge hN212 hb186
     have hb213 := low0 hb186 hN212.grw
     refine wpo_storen (vs := [.int .i64 ((rAt (mAt ms k).t.slots j).th), .int .i64 ((rAt (mAt ms k).t.slots j).ve), .bool ((rAt (mAt ms k).t.slots j).rd), .bool ((rAt (mAt ms k).t.slots j).wr), .bool ((rAt (mAt ms k).t.slots j).wk)]) (cs' := #[.int .i64 ((rAt (mAt ms k).t.slots j).th), .int .i64 ((rAt (mAt ms k).t.slots j).ve), .bool ((rAt (mAt ms k).t.slots j).rd), .bool ((rAt (mAt ms k).t.slots j).wr), .bool ((rAt (mAt ms k).t.slots j).wk)]) rt_29 rfl rfl rfl (by simp [Value.oneCell']) hN212.blk (Nat.le_of_ble_eq_true rfl) rfl ?_
     intro w214 hS215
     have hb216 := low1 hb213 hS215.grw (by omega)
     refine wpo_nil ?_
     refine wpf_seq_mid (fun f' w' => (f' 0 = .slice a ms.length c ∧ f' 3 = .int .i64 (k : Int) ∧ f' 4 = .int .i64 (j : Int) ∧ f' 88 = .bool ((decide ((ms.length : Int) < (rAt (mAt ms k).t.slots j).th)) || ((decide (0 < (rAt (mAt ms k).t.slots j).th)) && (decide ((mAt ms ((((rAt (mAt ms k).t.slots j).th) - 1).toNat)).t.ve < (rAt (mAt ms k).t.slots j).ve))))) ∧ w214.grownBy w' none) ?_ ?_
     ·
      rcases bcases (decide ((ms.length : Int) < (rAt (mAt ms k).t.slots j).th)) with h226 | h226
      ·
       have h227 := of_decide_eq_true h226
       refine wpf_draw (m := 19) (vals := [(67, .pointer (some ⟨B210, 0, none⟩)), (68, .int .i64 ((rAt (mAt ms k).t.slots j).th)), (69, .slice a ms.length c), (70, .int .i64 (ms.length : Int)), (71, .bool (decide ((ms.length : Int) < (rAt (mAt ms k).t.slots j).th))), (72, .bool (decide ((ms.length : Int) < (rAt (mAt ms k).t.slots j).th))), (73, undef), (74, undef), (75, undef), (76, undef), (77, undef), (78, undef), (79, undef), (80, undef), (81, undef), (82, undef), (83, undef), (84, undef), (85, undef)]) (fun w' => w214.grownBy w' none) mixed_ (by kernel_rfl) (grown_drew _) ?_ ?_
       ·
        refine yll_cons rfl (fun w228 hi229 => ?_) ?_
        ·
         have hb230 := low0 hb216 hi229
         refine wpo_fieldAddr (o' := 0) fo_29_0 rfl rfl rfl ?_
         exact wpo_nil ⟨rfl, hi229⟩
        refine yll_cons rfl (fun w231 hi232 => ?_) ?_
        ·
         have hb233 := low0 hb216 hi232
         have k234 := (hS215.blk.grown0 hi232)
         refine wpo_load1 (v := .int .i64 ((rAt (mAt ms k).t.slots j).th)) ot_3 rfl (k234.cell rfl) rfl ?_
         exact wpo_nil ⟨rfl, hi232⟩
        refine yll_cons rfl (fun w235 hi236 => ?_) ?_
        ·
         have hb237 := low0 hb216 hi236
         refine wpo_move (v := .slice a ms.length c) e189 rfl ?_
         exact wpo_nil ⟨rfl, hi236⟩
        refine yll_cons rfl (fun w238 hi239 => ?_) ?_
        ·
         have hb240 := low0 hb216 hi239
         refine wpo_len (by kernel_rfl) rfl rfl ?_
         exact wpo_nil ⟨rfl, hi239⟩
        refine yll_cons rfl (fun w241 hi242 => ?_) ?_
        ·
         have hb243 := low0 hb216 hi242
         refine wpo_gtr (q := decide ((ms.length : Int) < (rAt (mAt ms k).t.slots j).th)) rfl rfl rfl rfl ?_
         exact wpo_nil ⟨rfl, hi242⟩
        refine yll_cons rfl (fun w244 hi245 => ?_) ?_
        ·
         have hb246 := low0 hb216 hi245
         refine wpo_move (v := .bool (decide ((ms.length : Int) < (rAt (mAt ms k).t.slots j).th))) rfl rfl ?_
         exact wpo_nil ⟨rfl, hi245⟩
        refine yll_cons rfl (fun w247 hi248 => ?_) ?_
        ·
         have hb249 := low0 hb216 hi248
         refine wpo_pass rfl rfl rfl h226 rfl ?_
         exact wpo_nil ⟨rfl, hi248⟩
        refine yll_cons rfl (fun w250 hi251 => ?_) ?_
        ·
         have hb252 := low0 hb216 hi251
         refine wpo_pass rfl rfl rfl h226 rfl ?_
         exact wpo_nil ⟨rfl, hi251⟩
        refine yll_cons rfl (fun w253 hi254 => ?_) ?_
        ·
         have hb255 := low0 hb216 hi254
         refine wpo_pass rfl rfl rfl h226 rfl ?_
         exact wpo_nil ⟨rfl, hi254⟩
        refine yll_cons rfl (fun w256 hi257 => ?_) ?_
        ·
         have hb258 := low0 hb216 hi257
         refine wpo_pass rfl rfl rfl h226 rfl ?_
         exact wpo_nil ⟨rfl, hi257⟩
        refine yll_cons rfl (fun w259 hi260 => ?_) ?_
        ·
         have hb261 := low0 hb216 hi260
         refine wpo_passu rfl rfl rfl rfl ?_
         exact wpo_nil ⟨rfl, hi260⟩
        refine yll_cons rfl (fun w262 hi263 => ?_) ?_
        ·
         have hb264 := low0 hb216 hi263
         refine wpo_passu rfl rfl rfl rfl ?_
         exact wpo_nil ⟨rfl, hi263⟩
        refine yll_cons rfl (fun w265 hi266 => ?_) ?_
        ·
         have hb267 := low0 hb216 hi266
         refine wpo_passu rfl rfl rfl rfl ?_
         exact wpo_nil ⟨rfl, hi266⟩
        refine yll_cons rfl (fun w268 hi269 => ?_) ?_
        ·
         have hb270 := low0 hb216 hi269
         refine wpo_passu rfl rfl rfl rfl ?_
         exact wpo_nil ⟨rfl, hi269⟩
        refine yll_cons rfl (fun w271 hi272 => ?_) ?_
        ·
         have hb273 := low0 hb216 hi272
         refine wpo_passu rfl rfl rfl rfl ?_
         exact wpo_nil ⟨rfl, hi272⟩
        refine yll_cons rfl (fun w274 hi275 => ?_) ?_
        ·
         have hb276 := low0 hb216 hi275
         refine wpo_passu rfl rfl rfl rfl ?_
         exact wpo_nil ⟨rfl, hi275⟩
        refine yll_cons rfl (fun w277 hi278 => ?_) ?_
        ·
         have hb279 := low0 hb216 hi278
         refine wpo_passu rfl rfl rfl rfl ?_
         exact wpo_nil ⟨rfl, hi278⟩
        refine yll_cons rfl (fun w280 hi281 => ?_) ?_
        ·
         have hb282 := low0 hb216 hi281
         refine wpo_passu rfl rfl rfl rfl ?_
         exact wpo_nil ⟨rfl, hi281⟩
        refine yll_cons rfl (fun w283 hi284 => ?_) ?_
        ·
         have hb285 := low0 hb216 hi284
         refine wpo_passu rfl rfl rfl rfl ?_
         exact wpo_nil ⟨rfl, hi284⟩
        exact yll_nil
       ·
        intro w286 hi287
        have hb288 := low0 hb216 hi287
        refine wpo_passu rfl rfl rfl rfl ?_
        refine wpo_pass rfl rfl rfl h226 rfl ?_
        refine wpo_pickt (v := .bool true) rfl h226 rfl rfl ?_
        exact wpo_nil (thn_n ⟨⟨e189, e190, e188, (congrArg Value.bool (by first | (simp only [h107, h180, h181, h182, h183, h200, h226, b0, b1, b2, b3, b4, b5, b6, b7, b8, b9]; done) | simp [h107, h180, h181, h182, h183, h200, h226]))⟩, hi287⟩)
      ·
       have h289 := of_decide_eq_false h226
       rcases bcases (decide (0 < (rAt (mAt ms k).t.slots j).th)) with h290 | h290
       ·
        have h291 := of_decide_eq_true h290
        obtain ⟨b303, q304, o305, ha306, ho307, hr308⟩ := SlAt.at (TabAt.low ht hb216).1 (map_get (mAt_get (show (((rAt (mAt ms k).t.slots j).th) - 1).toNat < ms.length by omega)))
        have hle309 := TabLen.at hlen (mAt_get (show (((rAt (mAt ms k).t.slots j).th) - 1).toNat < ms.length by omega))
        refine wpf_draw (m := 19) (vals := [(67, .pointer (some ⟨B210, 0, none⟩)), (68, .int .i64 ((rAt (mAt ms k).t.slots j).th)), (69, .slice a ms.length c), (70, .int .i64 (ms.length : Int)), (71, .bool (decide ((ms.length : Int) < (rAt (mAt ms k).t.slots j).th))), (72, .bool (decide ((ms.length : Int) < (rAt (mAt ms k).t.slots j).th))), (73, .pointer (some ⟨B210, 0, none⟩)), (74, .int .i64 ((rAt (mAt ms k).t.slots j).th)), (75, .bool (decide (0 < (rAt (mAt ms k).t.slots j).th))), (76, .bool (decide (0 < (rAt (mAt ms k).t.slots j).th))), (77, .pointer (some ⟨B210, 1, none⟩)), (78, .int .i64 ((rAt (mAt ms k).t.slots j).ve)), (79, .slice a ms.length c), (80, .pointer (some ⟨B210, 0, none⟩)), (81, .int .i64 ((rAt (mAt ms k).t.slots j).th)), (82, .int .i64 (((rAt (mAt ms k).t.slots j).th) - 1)), (83, .pointer (some ⟨b303, o305, none⟩)), (84, .pointer (some ⟨b303, o305 + 3, none⟩)), (85, .int .i64 ((mAt ms ((((rAt (mAt ms k).t.slots j).th) - 1).toNat)).t.ve))]) (fun w' => w214.grownBy w' none) mixed_ (by kernel_rfl) (grown_drew _) ?_ ?_
        ·
         refine yll_cons rfl (fun w310 hi311 => ?_) ?_
         ·
          have hb312 := low0 hb216 hi311
          refine wpo_fieldAddr (o' := 0) fo_29_0 rfl rfl rfl ?_
          exact wpo_nil ⟨rfl, hi311⟩
         refine yll_cons rfl (fun w313 hi314 => ?_) ?_
         ·
          have hb315 := low0 hb216 hi314
          have k316 := (hS215.blk.grown0 hi314)
          refine wpo_load1 (v := .int .i64 ((rAt (mAt ms k).t.slots j).th)) ot_3 rfl (k316.cell rfl) rfl ?_
          exact wpo_nil ⟨rfl, hi314⟩
         refine yll_cons rfl (fun w317 hi318 => ?_) ?_
         ·
          have hb319 := low0 hb216 hi318
          refine wpo_move (v := .slice a ms.length c) e189 rfl ?_
          exact wpo_nil ⟨rfl, hi318⟩
         refine yll_cons rfl (fun w320 hi321 => ?_) ?_
         ·
          have hb322 := low0 hb216 hi321
          refine wpo_len (by kernel_rfl) rfl rfl ?_
          exact wpo_nil ⟨rfl, hi321⟩
         refine yll_cons rfl (fun w323 hi324 => ?_) ?_
         ·
          have hb325 := low0 hb216 hi324
          refine wpo_gtr (q := decide ((ms.length : Int) < (rAt (mAt ms k).t.slots j).th)) rfl rfl rfl rfl ?_
          exact wpo_nil ⟨rfl, hi324⟩
         refine yll_cons rfl (fun w326 hi327 => ?_) ?_
         ·
          have hb328 := low0 hb216 hi327
          refine wpo_move (v := .bool (decide ((ms.length : Int) < (rAt (mAt ms k).t.slots j).th))) rfl rfl ?_
          exact wpo_nil ⟨rfl, hi327⟩
         refine yll_cons rfl (fun w329 hi330 => ?_) ?_
         ·
          have hb331 := low0 hb216 hi330
          refine wpo_run rfl rfl rfl h226 ?_
          refine wpo_fieldAddr (o' := 0) fo_29_0 rfl rfl rfl ?_
          exact wpo_nil ⟨rfl, hi330⟩
         refine yll_cons rfl (fun w332 hi333 => ?_) ?_
         ·
          have hb334 := low0 hb216 hi333
          refine wpo_run rfl rfl rfl h226 ?_
          have k335 := (hS215.blk.grown0 hi333)
          refine wpo_load1 (v := .int .i64 ((rAt (mAt ms k).t.slots j).th)) ot_3 rfl (k335.cell rfl) rfl ?_
          exact wpo_nil ⟨rfl, hi333⟩
         refine yll_cons rfl (fun w336 hi337 => ?_) ?_
         ·
          have hb338 := low0 hb216 hi337
          refine wpo_run rfl rfl rfl h226 ?_
          refine wpo_gtr (q := decide (0 < (rAt (mAt ms k).t.slots j).th)) rfl rfl rfl rfl ?_
          exact wpo_nil ⟨rfl, hi337⟩
         refine yll_cons rfl (fun w339 hi340 => ?_) ?_
         ·
          have hb341 := low0 hb216 hi340
          refine wpo_run rfl rfl rfl h226 ?_
          refine wpo_move (v := .bool (decide (0 < (rAt (mAt ms k).t.slots j).th))) rfl rfl ?_
          exact wpo_nil ⟨rfl, hi340⟩
         refine yll_cons rfl (fun w342 hi343 => ?_) ?_
         ·
          have hb344 := low0 hb216 hi343
          refine wpo_run rfl rfl rfl h290 ?_
          refine wpo_fieldAddr (o' := 1) fo_29_1 rfl rfl rfl ?_
          exact wpo_nil ⟨rfl, hi343⟩
         refine yll_cons rfl (fun w345 hi346 => ?_) ?_
         ·
          have hb347 := low0 hb216 hi346
          refine wpo_run rfl rfl rfl h290 ?_
          have k348 := (hS215.blk.grown0 hi346)
          refine wpo_load1 (v := .int .i64 ((rAt (mAt ms k).t.slots j).ve)) ot_3 rfl (k348.cell rfl) rfl ?_
          exact wpo_nil ⟨rfl, hi346⟩
         refine yll_cons rfl (fun w349 hi350 => ?_) ?_
         ·
          have hb351 := low0 hb216 hi350
          refine wpo_run rfl rfl rfl h290 ?_
          refine wpo_move (v := .slice a ms.length c) e189 rfl ?_
          exact wpo_nil ⟨rfl, hi350⟩
         refine yll_cons rfl (fun w352 hi353 => ?_) ?_
         ·
          have hb354 := low0 hb216 hi353
          refine wpo_run rfl rfl rfl h290 ?_
          refine wpo_fieldAddr (o' := 0) fo_29_0 rfl rfl rfl ?_
          exact wpo_nil ⟨rfl, hi353⟩
         refine yll_cons rfl (fun w355 hi356 => ?_) ?_
         ·
          have hb357 := low0 hb216 hi356
          refine wpo_run rfl rfl rfl h290 ?_
          have k358 := (hS215.blk.grown0 hi356)
          refine wpo_load1 (v := .int .i64 ((rAt (mAt ms k).t.slots j).th)) ot_3 rfl (k358.cell rfl) rfl ?_
          exact wpo_nil ⟨rfl, hi356⟩
         refine yll_cons rfl (fun w359 hi360 => ?_) ?_
         ·
          have hb361 := low0 hb216 hi360
          refine wpo_run rfl rfl rfl h290 ?_
          refine wpo_sub (c := ((rAt (mAt ms k).t.slots j).th) - 1) rfl rfl (by omega) (by omega) (by omega) rfl ?_
          exact wpo_nil ⟨rfl, hi360⟩
         refine yll_cons rfl (fun w362 hi363 => ?_) ?_
         ·
          have hb364 := low0 hb216 hi363
          refine wpo_run rfl rfl rfl h290 ?_
          refine wpo_indexE es_54 rfl rfl ha306 ho307 (by omega) (by omega) rfl ?_
          exact wpo_nil ⟨rfl, hi363⟩
         refine yll_cons rfl (fun w365 hi366 => ?_) ?_
         ·
          have hb367 := low0 hb216 hi366
          refine wpo_run rfl rfl rfl h290 ?_
          refine wpo_fieldAddr (o' := o305 + 3) fo_45_2 rfl rfl rfl ?_
          exact wpo_nil ⟨rfl, hi366⟩
         refine yll_cons rfl (fun w368 hi369 => ?_) ?_
         ·
          have hb370 := low0 hb216 hi369
          refine wpo_run rfl rfl rfl h290 ?_
          refine wpo_load1 (v := .int .i64 ((mAt ms ((((rAt (mAt ms k).t.slots j).th) - 1).toNat)).t.ve)) ot_3 rfl ((range_low hr308 hi369) 3 _ rfl) rfl ?_
          exact wpo_nil ⟨rfl, hi369⟩
         exact yll_nil
        ·
         intro w371 hi372
         have hb373 := low0 hb216 hi372
         refine wpo_run rfl rfl rfl h290 ?_
         refine wpo_gtr (q := decide ((mAt ms ((((rAt (mAt ms k).t.slots j).th) - 1).toNat)).t.ve < (rAt (mAt ms k).t.slots j).ve)) rfl rfl rfl rfl ?_
         refine wpo_run rfl rfl rfl h226 ?_
         refine wpo_pickt (v := .bool (decide ((mAt ms ((((rAt (mAt ms k).t.slots j).th) - 1).toNat)).t.ve < (rAt (mAt ms k).t.slots j).ve))) rfl h290 rfl rfl ?_
         refine wpo_pickf (v := .bool (decide ((mAt ms ((((rAt (mAt ms k).t.slots j).th) - 1).toNat)).t.ve < (rAt (mAt ms k).t.slots j).ve))) rfl h226 rfl rfl ?_
         exact wpo_nil (thn_n ⟨⟨e189, e190, e188, (congrArg Value.bool (by first | (simp only [h107, h180, h181, h182, h183, h200, h226, h290, b0, b1, b2, b3, b4, b5, b6, b7, b8, b9]; done) | simp [h107, h180, h181, h182, h183, h200, h226, h290]))⟩, hi372⟩)
       ·
        have h374 := of_decide_eq_false h290
        refine wpf_draw (m := 19) (vals := [(67, .pointer (some ⟨B210, 0, none⟩)), (68, .int .i64 ((rAt (mAt ms k).t.slots j).th)), (69, .slice a ms.length c), (70, .int .i64 (ms.length : Int)), (71, .bool (decide ((ms.length : Int) < (rAt (mAt ms k).t.slots j).th))), (72, .bool (decide ((ms.length : Int) < (rAt (mAt ms k).t.slots j).th))), (73, .pointer (some ⟨B210, 0, none⟩)), (74, .int .i64 ((rAt (mAt ms k).t.slots j).th)), (75, .bool (decide (0 < (rAt (mAt ms k).t.slots j).th))), (76, .bool (decide (0 < (rAt (mAt ms k).t.slots j).th))), (77, undef), (78, undef), (79, undef), (80, undef), (81, undef), (82, undef), (83, undef), (84, undef), (85, undef)]) (fun w' => w214.grownBy w' none) mixed_ (by kernel_rfl) (grown_drew _) ?_ ?_
        ·
         refine yll_cons rfl (fun w375 hi376 => ?_) ?_
         ·
          have hb377 := low0 hb216 hi376
          refine wpo_fieldAddr (o' := 0) fo_29_0 rfl rfl rfl ?_
          exact wpo_nil ⟨rfl, hi376⟩
         refine yll_cons rfl (fun w378 hi379 => ?_) ?_
         ·
          have hb380 := low0 hb216 hi379
          have k381 := (hS215.blk.grown0 hi379)
          refine wpo_load1 (v := .int .i64 ((rAt (mAt ms k).t.slots j).th)) ot_3 rfl (k381.cell rfl) rfl ?_
          exact wpo_nil ⟨rfl, hi379⟩
         refine yll_cons rfl (fun w382 hi383 => ?_) ?_
         ·
          have hb384 := low0 hb216 hi383
          refine wpo_move (v := .slice a ms.length c) e189 rfl ?_
          exact wpo_nil ⟨rfl, hi383⟩
         refine yll_cons rfl (fun w385 hi386 => ?_) ?_
         ·
          have hb387 := low0 hb216 hi386
          refine wpo_len (by kernel_rfl) rfl rfl ?_
          exact wpo_nil ⟨rfl, hi386⟩
         refine yll_cons rfl (fun w388 hi389 => ?_) ?_
         ·
          have hb390 := low0 hb216 hi389
          refine wpo_gtr (q := decide ((ms.length : Int) < (rAt (mAt ms k).t.slots j).th)) rfl rfl rfl rfl ?_
          exact wpo_nil ⟨rfl, hi389⟩
         refine yll_cons rfl (fun w391 hi392 => ?_) ?_
         ·
          have hb393 := low0 hb216 hi392
          refine wpo_move (v := .bool (decide ((ms.length : Int) < (rAt (mAt ms k).t.slots j).th))) rfl rfl ?_
          exact wpo_nil ⟨rfl, hi392⟩
         refine yll_cons rfl (fun w394 hi395 => ?_) ?_
         ·
          have hb396 := low0 hb216 hi395
          refine wpo_run rfl rfl rfl h226 ?_
          refine wpo_fieldAddr (o' := 0) fo_29_0 rfl rfl rfl ?_
          exact wpo_nil ⟨rfl, hi395⟩
         refine yll_cons rfl (fun w397 hi398 => ?_) ?_
         ·
          have hb399 := low0 hb216 hi398
          refine wpo_run rfl rfl rfl h226 ?_
          have k400 := (hS215.blk.grown0 hi398)
          refine wpo_load1 (v := .int .i64 ((rAt (mAt ms k).t.slots j).th)) ot_3 rfl (k400.cell rfl) rfl ?_
          exact wpo_nil ⟨rfl, hi398⟩
         refine yll_cons rfl (fun w401 hi402 => ?_) ?_
         ·
          have hb403 := low0 hb216 hi402
          refine wpo_run rfl rfl rfl h226 ?_
          refine wpo_gtr (q := decide (0 < (rAt (mAt ms k).t.slots j).th)) rfl rfl rfl rfl ?_
          exact wpo_nil ⟨rfl, hi402⟩
         refine yll_cons rfl (fun w404 hi405 => ?_) ?_
         ·
          have hb406 := low0 hb216 hi405
          refine wpo_run rfl rfl rfl h226 ?_
          refine wpo_move (v := .bool (decide (0 < (rAt (mAt ms k).t.slots j).th))) rfl rfl ?_
          exact wpo_nil ⟨rfl, hi405⟩
         refine yll_cons rfl (fun w407 hi408 => ?_) ?_
         ·
          have hb409 := low0 hb216 hi408
          refine wpo_pass rfl rfl rfl h290 rfl ?_
          exact wpo_nil ⟨rfl, hi408⟩
         refine yll_cons rfl (fun w410 hi411 => ?_) ?_
         ·
          have hb412 := low0 hb216 hi411
          refine wpo_pass rfl rfl rfl h290 rfl ?_
          exact wpo_nil ⟨rfl, hi411⟩
         refine yll_cons rfl (fun w413 hi414 => ?_) ?_
         ·
          have hb415 := low0 hb216 hi414
          refine wpo_pass rfl rfl rfl h290 rfl ?_
          exact wpo_nil ⟨rfl, hi414⟩
         refine yll_cons rfl (fun w416 hi417 => ?_) ?_
         ·
          have hb418 := low0 hb216 hi417
          refine wpo_pass rfl rfl rfl h290 rfl ?_
          exact wpo_nil ⟨rfl, hi417⟩
         refine yll_cons rfl (fun w419 hi420 => ?_) ?_
         ·
          have hb421 := low0 hb216 hi420
          refine wpo_pass rfl rfl rfl h290 rfl ?_
          exact wpo_nil ⟨rfl, hi420⟩
         refine yll_cons rfl (fun w422 hi423 => ?_) ?_
         ·
          have hb424 := low0 hb216 hi423
          refine wpo_pass rfl rfl rfl h290 rfl ?_
          exact wpo_nil ⟨rfl, hi423⟩
         refine yll_cons rfl (fun w425 hi426 => ?_) ?_
         ·
          have hb427 := low0 hb216 hi426
          refine wpo_pass rfl rfl rfl h290 rfl ?_
          exact wpo_nil ⟨rfl, hi426⟩
         refine yll_cons rfl (fun w428 hi429 => ?_) ?_
         ·
          have hb430 := low0 hb216 hi429
          refine wpo_pass rfl rfl rfl h290 rfl ?_
          exact wpo_nil ⟨rfl, hi429⟩
         refine yll_cons rfl (fun w431 hi432 => ?_) ?_
         ·
          have hb433 := low0 hb216 hi432
          refine wpo_pass rfl rfl rfl h290 rfl ?_
          exact wpo_nil ⟨rfl, hi432⟩
         exact yll_nil
        ·
         intro w434 hi435
         have hb436 := low0 hb216 hi435
         refine wpo_pass rfl rfl rfl h290 rfl ?_
         refine wpo_run rfl rfl rfl h226 ?_
         refine wpo_pickf (v := .bool false) rfl h290 rfl rfl ?_
         refine wpo_pickf (v := .bool false) rfl h226 rfl rfl ?_
         exact wpo_nil (thn_n ⟨⟨e189, e190, e188, (congrArg Value.bool (by first | (simp only [h107, h180, h181, h182, h183, h200, h226, h290, b0, b1, b2, b3, b4, b5, b6, b7, b8, b9]; done) | simp [h107, h180, h181, h182, h183, h200, h226, h290]))⟩, hi435⟩)
     ·
      rintro f437 w438 ⟨⟨e439, e440, e441, e442⟩, hg443⟩
      have hb444 := low0 hb216 hg443
      refine wpf_cond e442 (fun h445 => ?_) (fun h445 => ?_)
      ·
       refine wpf_seq_region ?_
       refine wpo_assign (v := .bool false) rfl rfl ?_
       refine wpo_nil ?_
       refine wpf_ret ?_
       refine blk_r ?_
       refine thn_r ?_
       refine thn_r ?_
       refine blk_r ?_
       refine blk_r ?_
       refine thn_r ?_
       refine thn_r ?_
       refine blk_r ?_
       refine thn_r ?_
       refine ⟨.bool false, res1 rfl rfl, ?_, hb444⟩
       exact congrArg Value.bool (tab_no (by omega) (row_no1 (rAt_get (by omega)) (nt_t ((row_right (th_right ((row_head rfl).2 h180).1 (rAt_get (by omega))).1).symm.trans h445))))
      ·
       have h446 := or_l h445
       have h447 := of_decide_eq_false h446
       have h448 := or_r h445
       refine wpf_skip ?_
       refine blk_n ?_
       refine thn_n ?_
       refine wpf_region ?_
       refine wpo_move (v := .int .i64 (j : Int)) e441 rfl ?_
       refine wpo_add (c := (j : Int) + 1) rfl rfl (by omega) (by omega) (by omega) rfl ?_
       refine wpo_assign (v := .int .i64 ((j : Int) + 1)) rfl rfl ?_
       refine wpo_nil ?_
       refine thn_n ?_
       exact ⟨(mAt ms k).t.slots.length - (j + 1), by omega, (j + 1), rfl, (by omega), (take_all_succ hrs (rAt_get (by omega)) (nt_f ((row_right (th_right ((row_head rfl).2 h180).1 (rAt_get (by omega))).1).symm.trans h445))), rfl, e439, e440, hb444⟩
    ·
     have h449 := of_decide_eq_false h200
     refine wpf_exit ?_
     refine thn_e ?_
     refine thn_e ?_
     refine blk_e ?_
     refine blk_n ?_
     refine thn_n ?_
     refine wpf_region ?_
     refine wpo_move (v := .int .i64 (k : Int)) e190 rfl ?_
     refine wpo_add (c := (k : Int) + 1) rfl rfl (by omega) (by omega) (by omega) rfl ?_
     refine wpo_assign (v := .int .i64 ((k : Int) + 1)) rfl rfl ?_
     refine wpo_nil ?_
     refine thn_n ?_
     exact ⟨ms.length - (k + 1), by omega, (k + 1), rfl, (by omega), (take_all_succ hall (tab_at (by omega)) (row_yes ((row_head rfl).2 h180).1 ((row_head rfl).2 h180).2 hrs (by omega))), rfl, e189, hb186⟩
 ·
  have h450 := of_decide_eq_false h107
  refine wpf_exit ?_
  refine thn_e ?_
  refine thn_e ?_
  refine blk_e ?_
  refine thn_n ?_
  refine wpf_seq_region ?_
  refine wpo_move (v := .slice a ms.length c) e106 rfl ?_
  refine wpo_len (by kernel_rfl) rfl rfl ?_
  refine wpo_call (vs := [.int .i64 (ms.length : Int), .int .i64 1, .int .i64 8]) gf_85 (args_cons rfl (args_cons rfl (args_cons rfl args_nil))) rfl (l6In_c (ms.length : Int) 1 8 _) ?_
  rintro _ w451 ⟨rfl, hg452⟩
  have hb453 := low0 hb103 hg452
  refine wpo_assign (v := .bool (inR (ms.length : Int) 1 8)) rfl rfl ?_
  refine wpo_nil ?_
  refine wpf_ret ?_
  refine ⟨.bool (inR (ms.length : Int) 1 8), res1 rfl rfl, ?_, hb453⟩
  exact congrArg Value.bool (tab_yes hall (by omega))
theorem gf_103 : goFn Try.prog 103 = true := by kernel_rfl
theorem gf_104 : goFn Try.prog 104 = true := by kernel_rfl
theorem ot_54 : oneTy Try.prog 54 = true := by kernel_rfl
theorem zt_4 : zeroTy Try.prog 4 = some (.bool false) := by kernel_rfl
theorem allRights_c (w : World) (ms : List MTh) (a : Option Addr) (c : Nat) : CallsR Try.prog 104 #[.slice a ms.length c] w (fun v w' => ∃ B : Nat, v = .func (.func 115) #[] #[.pointer (some ⟨B, 0, none⟩)] ∧ w.heap.size ≤ B ∧ Blk w' B 54 #[.slice a ms.length c] ∧ w.grownBy w' none) := by
 refine calls_of_wpf (n := 4) Try.func104 rfl Try.ntmps104 rfl ?_
 have hb0 := World.grownBy.refl w none
 refine wpf_seq_region ?_
 refine wpo_box (v := .slice a ms.length c) (cs := #[.slice a ms.length c]) rfl rfl rfl ?_
 intro B101 w102 hN103
 have hlB101 := hN_ge hN103 hb0
 have hb104 := low0 hb0 hN103.grw
 refine wpo_assign (v := .nilFunc) rfl rfl ?_
 refine wpo_nil ?_
 refine wpf_seq_region ?_
 refine wpo_makeFunc (vs := [.pointer (some ⟨B101, 0, none⟩)]) (args_cons rfl args_nil) rfl ?_
 refine wpo_assign (v := .func (.func 115) #[] #[.pointer (some ⟨B101, 0, none⟩)]) rfl rfl ?_
 refine wpo_nil ?_
 refine wpf_ret ?_
 refine ⟨.func (.func 115) #[] #[.pointer (some ⟨B101, 0, none⟩)], res1 rfl rfl, B101, rfl, hlB101, hN103.blk, hb104⟩
theorem rights_stops (m : Nat) (w : World) (B : Nat) (ms : List MTh) (a : Option Addr) (c : Nat) (ht : TabAt w a ms) (hlen : TabLen ms) (hn : ms.length ≤ 1048576) (hB : Blk w B 54 #[.slice a ms.length c]) :
    SeqStopsK Fence.wide m Try.prog 115 #[.pointer (some ⟨B, 0, none⟩)] (fun x : Rt => #[.agg x.cells.toArray]) (Below w.heap.size) (fun xs => xs = allR ms) (fun pre => pre <+: allR ms) (allR ms).length w := by
 intro l J Jx W hW hJ hJx hY h0
 have hb0 := gob hW
 show CallsIn Fence.wide m Try.prog 115 #[.func (.yield l) #[] #[], .pointer (some ⟨B, 0, none⟩)] W _
 refine (callsIn_of_wpg (n := 26) (m := m) (R := fun v w' => (∃ xs, xs = allR ms ∧ J xs w') ∨ (∃ pre, pre <+: allR ms ∧ Jx pre w')) Try.func115 rfl Try.ntmps115 rfl ?_).mono (fun e w' ⟨v, he, h⟩ => ⟨⟨v, he⟩, h⟩)
 refine wpg_seq_region wd_wide ?_
 refine wpo_load1 (v := .slice a ms.length c) ot_54 rfl ((hB.grown0 hb0).cell rfl) rfl ?_
 refine wpo_len (by kernel_rfl) rfl rfl ?_
 refine wpo_move (v := .int .i64 0) rfl rfl ?_
 refine wpo_nil ?_
 refine wpg_block ?_
 refine wpg_loopN (fun mm f' w' => ∃ (k : Nat), mm = ms.length - k ∧ k ≤ ms.length ∧ J (allR (ms.take k)) w' ∧ f' 9 = .int .i64 (k : Int) ∧ f' 0 = .func (.yield l) #[] #[] ∧ f' 7 = .slice a ms.length c ∧ f' 8 = .int .i64 (ms.length : Int) ∧ w.grownBy w' none) (ms.length - 0) ⟨0, rfl, (Nat.zero_le _), h0, rfl, rfl, rfl, rfl, hb0⟩ ?_
 rintro mm f101 w102 ⟨k, hm104, hk, hJk, e105, e106, e107, e108, hb103⟩
 refine wpg_seq_region wd_wide ?_
 refine wpo_lss (q := decide ((k : Int) < (ms.length : Int))) e105 e108 rfl rfl ?_
 refine wpo_nil ?_
 refine wpg_seq ?_
 refine wpg_cond rfl (fun h109 => ?_) (fun h109 => ?_)
 ·
  have h110 := of_decide_eq_true h109
  refine wpg_skip ?_
  refine thn_n ?_
  refine wpg_seq ?_
  refine wpg_block ?_
  refine wpg_seq_region wd_wide ?_
  obtain ⟨b113, q114, o115, ha116, ho117, hr118⟩ := SlAt.at (TabAt.low ht hb103).1 (map_get (mAt_get (show k < ms.length by omega)))
  have hle119 := TabLen.at hlen (mAt_get (show k < ms.length by omega))
  refine wpo_indexE es_54 e107 e105 ha116 ho117 (by omega) (by omega) rfl ?_
  refine wpo_loadn (vs := [.int .i64 ((mAt ms k).t.kind), .int .i64 ((mAt ms k).t.lab.s), .int .i64 ((mAt ms k).t.lab.v), .int .i64 ((mAt ms k).t.ve), .int .i64 ((mAt ms k).t.num), .slice ((mAt ms k).sa) ((mAt ms k).t.slots.length) ((mAt ms k).sc), .slice ((mAt ms k).qa) ((mAt ms k).t.queue.length) ((mAt ms k).qc), .int .i64 ((mAt ms k).t.to)]) rt_45 rfl rfl (range_sub hr118 0 8 rfl) rfl ?_
  refine wpo_alloc (cs := #[.int .i64 0, .int .i64 0, .int .i64 0, .int .i64 0, .int .i64 0, .slice none 0 0, .slice none 0 0, .int .i64 0]) zt_45 rfl rfl ?_
  intro B120 w121 hN122
  have hlB120 := hN_ge hN122 hb103
  have hb123 := low0 hb103 hN122.grw
  refine wpo_storen (vs := [.int .i64 ((mAt ms k).t.kind), .int .i64 ((mAt ms k).t.lab.s), .int .i64 ((mAt ms k).t.lab.v), .int .i64 ((mAt ms k).t.ve), .int .i64 ((mAt ms k).t.num), .slice ((mAt ms k).sa) ((mAt ms k).t.slots.length) ((mAt ms k).sc), .slice ((mAt ms k).qa) ((mAt ms k).t.queue.length) ((mAt ms k).qc), .int .i64 ((mAt ms k).t.to)]) (cs' := #[.int .i64 ((mAt ms k).t.kind), .int .i64 ((mAt ms k).t.lab.s), .int .i64 ((mAt ms k).t.lab.v), .int .i64 ((mAt ms k).t.ve), .int .i64 ((mAt ms k).t.num), .slice ((mAt ms k).sa) ((mAt ms k).t.slots.length) ((mAt ms k).sc), .slice ((mAt ms k).qa) ((mAt ms k).t.queue.length) ((mAt ms k).qc), .int .i64 ((mAt ms k).t.to)]) rt_45 rfl rfl rfl (by simp [Value.oneCell']) hN122.blk (Nat.le_of_ble_eq_true rfl) rfl ?_
  intro w124 hS125
  have hb126 := low1 hb123 hS125.grw (by omega)
  refine wpo_nil ?_
  refine wpg_seq_region wd_wide ?_
  refine wpo_fieldAddr (o' := 5) fo_45_4 rfl rfl rfl ?_
  refine wpo_load1 (v := .slice ((mAt ms k).sa) ((mAt ms k).t.slots.length) ((mAt ms k).sc)) ot_27 rfl (hS125.blk.cell rfl) rfl ?_
  refine wpo_len (by kernel_rfl) rfl rfl ?_
  refine wpo_move (v := .int .i64 0) rfl rfl ?_
  refine wpo_nil ?_
  refine wpg_block ?_
  refine wpg_loopN (fun mm f' w' => ∃ (j : Nat), mm = (mAt ms k).t.slots.length - j ∧ j ≤ (mAt ms k).t.slots.length ∧ J (preR ms k j) w' ∧ f' 16 = .int .i64 (j : Int) ∧ f' 0 = .func (.yield l) #[] #[] ∧ f' 7 = .slice a ms.length c ∧ f' 8 = .int .i64 (ms.length : Int) ∧ f' 9 = .int .i64 (k : Int) ∧ f' 14 = .slice ((mAt ms k).sa) ((mAt ms k).t.slots.length) ((mAt ms k).sc) ∧ f' 15 = .int .i64 ((mAt ms k).t.slots.length : Int) ∧ w.grownBy w' none) ((mAt ms k).t.slots.length - 0) ⟨0, rfl, (Nat.zero_le _), (by rw [preR_zero]; exact (hJ _ _ _ none hJk (low1 hN122.grw hS125.grw (Nat.le_trans ((World.grownBy.refl _ none)).size (Nat.le_of_eq hN122.eq.symm))) (fun r e => by cases e))), rfl, e106, e107, e108, e105, rfl, rfl, hb126⟩ ?_
  rintro mm f127 w128 ⟨j, hm130, hj, hJj, e131, e132, e133, e134, e135, e136, e137, hb129⟩
  refine wpg_seq_region wd_wide ?_
  refine wpo_lss (q := decide ((j : Int) < ((mAt ms k).t.slots.length : Int))) e131 e137 rfl rfl ?_
  refine wpo_nil ?_
  refine wpg_seq ?_
  refine wpg_cond rfl (fun h138 => ?_) (fun h138 => ?_)
  ·
   have h139 := of_decide_eq_true h138
   refine wpg_skip ?_
   refine thn_n ?_
   refine wpg_seq ?_
   refine wpg_block ?_
   refine wpg_seq_region wd_wide ?_
   obtain ⟨b142, q143, o144, ha145, ho146, hr147⟩ := SlAt.at (TabAt.th (TabAt.low ht hb129) (mAt_get (show k < ms.length by omega))).1 (map_get (rAt_get (show j < (mAt ms k).t.slots.length by omega)))
   refine wpo_indexE es_27 e136 e131 ha145 ho146 (by omega) (by omega) rfl ?_
   refine wpo_loadn (vs := [.int .i64 ((rAt (mAt ms k).t.slots j).th), .int .i64 ((rAt (mAt ms k).t.slots j).ve), .bool ((rAt (mAt ms k).t.slots j).rd), .bool ((rAt (mAt ms k).t.slots j).wr), .bool ((rAt (mAt ms k).t.slots j).wk)]) rt_29 rfl rfl (range_sub hr147 0 5 rfl) rfl ?_
   refine wpo_alloc (cs := #[.int .i64 0, .int .i64 0, .bool false, .bool false, .bool false]) zt_29 rfl rfl ?_
   intro B148 w149 hN150
   have hlB148 := hN_ge hN150 hb129
   have hb151 := low0 hb129 hN150.grw
   refine wpo_storen (vs := [.int .i64 ((rAt (mAt ms k).t.slots j).th), .int .i64 ((rAt (mAt ms k).t.slots j).ve), .bool ((rAt (mAt ms k).t.slots j).rd), .bool ((rAt (mAt ms k).t.slots j).wr), .bool ((rAt (mAt ms k).t.slots j).wk)]) (cs' := #[.int .i64 ((rAt (mAt ms k).t.slots j).th), .int .i64 ((rAt (mAt ms k).t.slots j).ve), .bool ((rAt (mAt ms k).t.slots j).rd), .bool ((rAt (mAt ms k).t.slots j).wr), .bool ((rAt (mAt ms k).t.slots j).wk)]) rt_29 rfl rfl rfl (by simp [Value.oneCell']) hN150.blk (Nat.le_of_ble_eq_true rfl) rfl ?_
   intro w152 hS153
   have hb154 := low1 hb151 hS153.grw (by omega)
   refine wpo_nil ?_
   refine wpg_seq ?_
   refine wpg_region' ?_
   refine wpog_at 2 wd_wide (by kernel_rfl) ?_
   simp only [List.take_succ_cons, List.take_zero]
   refine wpo_move (v := .func (.yield l) #[] #[]) e132 rfl ?_
   refine wpo_loadn (vs := [.int .i64 ((rAt (mAt ms k).t.slots j).th), .int .i64 ((rAt (mAt ms k).t.slots j).ve), .bool ((rAt (mAt ms k).t.slots j).rd), .bool ((rAt (mAt ms k).t.slots j).wr), .bool ((rAt (mAt ms k).t.slots j).wk)]) rt_29 rfl rfl (hS153.blk.rangeL 0 5 rfl) rfl ?_
   refine wpo_nil ?_
   simp only [List.drop_succ_cons, List.drop_zero]
   refine wpog_yield wd_wide rfl rfl (vs := [.agg #[.int .i64 ((rAt (mAt ms k).t.slots j).th), .int .i64 ((rAt (mAt ms k).t.slots j).ve), .bool ((rAt (mAt ms k).t.slots j).rd), .bool ((rAt (mAt ms k).t.slots j).wr), .bool ((rAt (mAt ms k).t.slots j).wk)]]) (args_cons rfl args_nil) rfl (hY (preR ms k j) _ _ (hJ _ _ _ none hJj (low1 hN150.grw hS153.grw (Nat.le_trans ((World.grownBy.refl _ none)).size (Nat.le_of_eq hN150.eq.symm))) (fun r e => by cases e)) (preR_lt (by omega) (by omega))) ?_
   rintro _ w155 (⟨rfl, hJ157, hg156⟩ | ⟨rfl, hJx158⟩)
   ·
    refine ⟨true, rfl, ?_⟩
    have hb159 := grown_below hb154 hg156
    refine wpog_of wd_wide (by kernel_rfl) ?_
    refine wpo_not (b' := false) rfl rfl rfl ?_
    refine wpo_nil ?_
    refine thn_n ?_
    refine wpg_condf rfl rfl ?_
    refine wpg_skip ?_
    refine blk_n ?_
    refine thn_n ?_
    refine wpg_region wd_wide ?_
    refine wpo_add (c := (j : Int) + 1) e131 rfl (by omega) (by omega) (by omega) rfl ?_
    refine wpo_move (v := .int .i64 ((j : Int) + 1)) rfl rfl ?_
    refine wpo_nil ?_
    refine thn_n ?_
    exact ⟨(mAt ms k).t.slots.length - (j + 1), by omega, (j + 1), rfl, (by omega), (by rw [← preR_snoc (by omega)]; exact hJ157), rfl, e132, e133, e134, e135, e136, e137, hb159⟩
   ·
    refine ⟨false, rfl, ?_⟩
    refine wpog_of wd_wide (by kernel_rfl) ?_
    refine wpo_not (b' := true) rfl rfl rfl ?_
    refine wpo_nil ?_
    refine thn_n ?_
    refine wpg_condt rfl rfl ?_
    refine wpg_ret ?_
    refine blk_r ?_
    refine thn_r ?_
    refine thn_r ?_
    refine blk_r ?_
    refine blk_r ?_
    refine thn_r ?_
    refine thn_r ?_
    refine blk_r ?_
    refine ⟨.tuple #[], res0 rfl, Or.inr ⟨_, preR_prefix (k := k) (j := j + 1) (by omega), ?_⟩⟩
    rw [← preR_snoc (k := k) (j := j) (by omega)]
    exact hJx158
  ·
   have h160 := of_decide_eq_false h138
   refine wpg_exit ?_
   refine thn_e ?_
   refine thn_e ?_
   refine blk_e ?_
   refine blk_n ?_
   refine thn_n ?_
   refine wpg_region wd_wide ?_
   refine wpo_add (c := (k : Int) + 1) e135 rfl (by omega) (by omega) (by omega) rfl ?_
   refine wpo_move (v := .int .i64 ((k : Int) + 1)) rfl rfl ?_
   refine wpo_nil ?_
   refine thn_n ?_
   exact ⟨ms.length - (k + 1), by omega, (k + 1), rfl, (by omega), (by rw [← preR_next (j := j) (by omega) (by omega)]; exact hJj), rfl, e132, e133, e134, hb129⟩
 ·
  have h161 := of_decide_eq_false h109
  refine wpg_exit ?_
  refine thn_e ?_
  refine thn_e ?_
  refine blk_e ?_
  refine ⟨.tuple #[], res0 rfl, Or.inl ⟨_, rfl, ?_⟩⟩
  have kk := hJk
  rw [allR_take (by omega)] at kk
  exact kk
theorem TableOk_c (w : World) (ms : List MTh) (a : Option Addr) (c : Nat) (ht : TabAt w a ms) (hlen : TabLen ms) (hn : ms.length ≤ 1048576) : CallsR Try.prog 83 #[.slice a ms.length c] w (fun v w' => v = .bool (tableOk (tabT ms)) ∧ w.grownBy w' none) := by
 refine callsA (n := 53) (m := 9) Try.func83 rfl Try.ntmps83 rfl ?_
 have hb0 := World.grownBy.refl w none
 refine wpa_seq_region ?_
 refine wpo_box (v := .slice a ms.length c) (cs := #[.slice a ms.length c]) rfl rfl rfl ?_
 intro B101 w102 hN103
 have hlB101 := hN_ge hN103 hb0
 have hb104 := low0 hb0 hN103.grw
 refine wpo_alloc (cs := #[.bool false]) zt_4 rfl rfl ?_
 intro B105 w106 hN107
 have hlB105 := hN_ge hN107 hb104
 have lt_B101_B105 := hN_gtl hN107 (hN103.blk).lt
 have hb108 := low0 hb104 hN107.grw
 refine wpo_nil ?_
 refine wpa_seq ?_
 refine wpf_seq_region ?_
 have k109 := (hN103.blk.grown0 hN107.grw)
 refine wpo_load1 (v := .slice a ms.length c) ot_54 rfl (k109.cell rfl) rfl ?_
 refine wpo_len (by kernel_rfl) rfl rfl ?_
 refine wpo_call (vs := [.int .i64 (ms.length : Int), .int .i64 1, .int .i64 8]) gf_69 (args_cons rfl (args_cons rfl (args_cons rfl args_nil))) rfl (inRange_c (ms.length : Int) 1 8 _) ?_
 rintro _ w110 ⟨rfl, hg111⟩
 have hb112 := low0 hb108 hg111
 refine wpo_not (b' := !inR (ms.length : Int) 1 8) rfl rfl rfl ?_
 refine wpo_nil ?_
 refine wpf_cond rfl (fun h113 => ?_) (fun h113 => ?_)
 ·
  have h114 := nt_t h113
  refine wpf_seq_region ?_
  have k115 := (hN107.blk.grown0 hg111)
  refine wpo_store1 (v := .bool false) (cs' := #[.bool false]) ot_4 rfl rfl rfl k115 (Nat.le_of_ble_eq_true rfl) rfl ?_
  intro w116 hS117
  have hb118 := low1 hb112 hS117.grw (by omega)
  refine wpo_nil ?_
  refine wpf_ret ?_
  refine thn_r ?_
  exact endA (resC rfl (resCell_mk1 ot_4 rfl (hS117.blk.cell rfl))) ⟨congrArg Value.bool (tabi_len h114).symm, hb118⟩
 ·
  have h119 := nt_f h113
  have hr120 := inR_iff.1 h119
  refine wpf_skip ?_
  refine thn_n ?_
  refine wpa_seq ?_
  refine wpf_seq_region ?_
  have k121 := (k109.grown0 hg111)
  refine wpo_load1 (v := .slice a ms.length c) ot_54 rfl (k121.cell rfl) rfl ?_
  refine wpo_len (by kernel_rfl) rfl rfl ?_
  refine wpo_move (v := .int .i64 0) rfl rfl ?_
  refine wpo_nil ?_
  refine wpf_block ?_
  have k122 := (hN107.blk.grown0 hg111)
  refine wpf_loopN (fun mm f' w' => ∃ (k : Nat), mm = ms.length - k ∧ k ≤ ms.length ∧ (((tabT ms).take k).all (headOk (tabT ms))) = true ∧ f' 12 = .int .i64 (k : Int) ∧ f' 0 = .slice a ms.length c ∧ f' 1 = .pointer (some ⟨B101, 0, none⟩) ∧ f' 2 = .pointer (some ⟨B105, 0, none⟩) ∧ f' 10 = .slice a ms.length c ∧ f' 11 = .int .i64 (ms.length : Int) ∧ w.grownBy w' none ∧ Blk w' B101 54 #[.slice a ms.length c] ∧ Blk w' B105 4 #[.bool false]) (ms.length - 0) ⟨0, rfl, (Nat.zero_le _), rfl, rfl, rfl, rfl, rfl, rfl, rfl, hb112, k121, k122⟩ ?_
  rintro mm f123 w124 ⟨k, hm126, hk, hall, e127, e128, e129, e130, e131, e132, hb125, k133, k134⟩
  refine wpf_seq_region ?_
  refine wpo_lss (q := decide ((k : Int) < (ms.length : Int))) e127 e132 rfl rfl ?_
  refine wpo_nil ?_
  refine wpf_seq ?_
  refine wpf_cond rfl (fun h135 => ?_) (fun h135 => ?_)
  ·
   have h136 := of_decide_eq_true h135
   refine wpf_skip ?_
   refine thn_n ?_
   refine wpf_seq ?_
   refine wpf_block ?_
   refine wpf_seq_region ?_
   obtain ⟨b139, q140, o141, ha142, ho143, hr144⟩ := SlAt.at (TabAt.low ht hb125).1 (map_get (mAt_get (show k < ms.length by omega)))
   have hle145 := TabLen.at hlen (mAt_get (show k < ms.length by omega))
   refine wpo_indexE es_54 e131 e127 ha142 ho143 (by omega) (by omega) rfl ?_
   refine wpo_loadn (vs := [.int .i64 ((mAt ms k).t.kind), .int .i64 ((mAt ms k).t.lab.s), .int .i64 ((mAt ms k).t.lab.v), .int .i64 ((mAt ms k).t.ve), .int .i64 ((mAt ms k).t.num), .slice ((mAt ms k).sa) ((mAt ms k).t.slots.length) ((mAt ms k).sc), .slice ((mAt ms k).qa) ((mAt ms k).t.queue.length) ((mAt ms k).qc), .int .i64 ((mAt ms k).t.to)]) rt_45 rfl rfl (range_sub hr144 0 8 rfl) rfl ?_
   refine wpo_alloc (cs := #[.int .i64 0, .int .i64 0, .int .i64 0, .int .i64 0, .int .i64 0, .slice none 0 0, .slice none 0 0, .int .i64 0]) zt_45 rfl rfl ?_
   intro B146 w147 hN148
   have hlB146 := hN_ge hN148 hb125
   have lt_B101_B146 := hN_gtl hN148 (k133).lt
   have lt_B105_B146 := hN_gtl hN148 (k134).lt
   have hb149 := low0 hb125 hN148.grw
   refine wpo_storen (vs := [.int .i64 ((mAt ms k).t.kind), .int .i64 ((mAt ms k).t.lab.s), .int .i64 ((mAt ms k).t.lab.v), .int .i64 ((mAt ms k).t.ve), .int .i64 ((mAt ms k).t.num), .slice ((mAt ms k).sa) ((mAt ms k).t.slots.length) ((mAt ms k).sc), .slice ((mAt ms k).qa) ((mAt ms k).t.queue.length) ((mAt ms k).qc), .int .i64 ((mAt ms k).t.to)]) (cs' := #[.int .i64 ((mAt ms k).t.kind), .int .i64 ((mAt ms k).t.lab.s), .int .i64 ((mAt ms k).t.lab.v), .int .i64 ((mAt ms k).t.ve), .int .i64 ((mAt ms k).t.num), .slice ((mAt ms k).sa) ((mAt ms k).t.slots.length) ((mAt ms k).sc), .slice ((mAt ms k).qa) ((mAt ms k).t.queue.length) ((mAt ms k).qc), .int .i64 ((mAt ms k).t.to)]) rt_45 rfl rfl rfl (by simp [Value.oneCell']) hN148.blk (Nat.le_of_ble_eq_true rfl) rfl ?_
   intro w150 hS151
   have hb152 := low1 hb149 hS151.grw (by omega)
   refine wpo_nil ?_
   refine wpf_seq ?_
   refine wpf_seq_region ?_
   refine wpo_loadn (vs := [.int .i64 ((mAt ms k).t.kind), .int .i64 ((mAt ms k).t.lab.s), .int .i64 ((mAt ms k).t.lab.v), .int .i64 ((mAt ms k).t.ve), .int .i64 ((mAt ms k).t.num), .slice ((mAt ms k).sa) ((mAt ms k).t.slots.length) ((mAt ms k).sc), .slice ((mAt ms k).qa) ((mAt ms k).t.queue.length) ((mAt ms k).qc), .int .i64 ((mAt ms k).t.to)]) rt_45 rfl rfl (hS151.blk.rangeL 0 8 rfl) rfl ?_
   refine wpo_call (vs := [.agg #[.int .i64 ((mAt ms k).t.kind), .int .i64 ((mAt ms k).t.lab.s), .int .i64 ((mAt ms k).t.lab.v), .int .i64 ((mAt ms k).t.ve), .int .i64 ((mAt ms k).t.num), .slice ((mAt ms k).sa) ((mAt ms k).t.slots.length) ((mAt ms k).sc), .slice ((mAt ms k).qa) ((mAt ms k).t.queue.length) ((mAt ms k).qc), .int .i64 ((mAt ms k).t.to)]]) gf_26 (args_cons rfl args_nil) rfl (ThingOk_c (mAt ms k) _ (TabAt.th (TabAt.low ht hb152) (mAt_get (show k < ms.length by omega))).1 (TabAt.th (TabAt.low ht hb152) (mAt_get (show k < ms.length by omega))).2.1 (by first | omega | exact Nat.le_of_ble_eq_true rfl | (simp only [List.length_nil, List.length_cons, List.length_append, List.length_replicate]; omega)) (by first | omega | exact Nat.le_of_ble_eq_true rfl | (simp only [List.length_nil, List.length_cons, List.length_append, List.length_replicate]; omega))) ?_
   rintro _ w153 ⟨rfl, hg154⟩
   have hb155 := low0 hb152 hg154
   refine wpo_not (b' := !thingOk (mAt ms k).t) rfl rfl rfl ?_
   refine wpo_nil ?_
   refine wpf_cond rfl (fun h156 => ?_) (fun h156 => ?_)
   ·
    have h157 := nt_t h156
    refine wpf_seq_region ?_
    have k158 := (((k134.grown0 hN148.grw).grown hS151.grw (some_ne (by omega))).grown0 hg154)
    refine wpo_store1 (v := .bool false) (cs' := #[.bool false]) ot_4 e130 rfl rfl k158 (Nat.le_of_ble_eq_true rfl) rfl ?_
    intro w159 hS160
    have hb161 := low1 hb155 hS160.grw (by omega)
    refine wpo_nil ?_
    refine wpf_ret ?_
    refine thn_r ?_
    refine blk_r ?_
    refine thn_r ?_
    refine thn_r ?_
    refine blk_r ?_
    refine thn_r ?_
    exact endA (resC rfl (resCell_mk1 ot_4 e130 (hS160.blk.cell rfl))) ⟨congrArg Value.bool (tabi_no (k := k) (by omega) (by unfold headOk; rw [h157]; rfl)).symm, hb161⟩
   ·
    have h162 := nt_f h156
    refine wpf_skip ?_
    refine thn_n ?_
    refine wpf_seq_region_mid (fun f' w' => (f' 0 = .slice a ms.length c ∧ f' 1 = .pointer (some ⟨B101, 0, none⟩) ∧ f' 2 = .pointer (some ⟨B105, 0, none⟩) ∧ f' 10 = .slice a ms.length c ∧ f' 11 = .int .i64 (ms.length : Int) ∧ f' 12 = .int .i64 (k : Int) ∧ f' 28 = .bool ((decide ((mAt ms k).t.kind = 5)) && (!kindAt (tabT ms) ((mAt ms k).t.to) 1))) ∧ w153.grownBy w' none) ?_ ?_
    ·
     refine wpo_fieldAddr (o' := 0) fo_45_0 rfl rfl rfl ?_
     have k169 := (hS151.blk.grown0 hg154)
     refine wpo_load1 (v := .int .i64 ((mAt ms k).t.kind)) ot_3 rfl (k169.cell rfl) rfl ?_
     refine wpo_eql (q := decide ((mAt ms k).t.kind = 5)) rfl rfl rfl rfl ?_
     refine wpo_move (v := .bool (decide ((mAt ms k).t.kind = 5))) rfl rfl ?_
     rcases bcases (decide ((mAt ms k).t.kind = 5)) with h170 | h170
     ·
      have hgt171 := th_gate h162 h170
      have h172 := of_decide_eq_true h170
      refine wpo_run rfl rfl rfl h170 ?_
      have k173 := (((k133.grown0 hN148.grw).grown hS151.grw (some_ne (by omega))).grown0 hg154)
      refine wpo_load1 (v := .slice a ms.length c) ot_54 e129 (k173.cell rfl) rfl ?_
      refine wpo_run rfl rfl rfl h170 ?_
      refine wpo_fieldAddr (o' := 7) fo_45_6 rfl rfl rfl ?_
      refine wpo_run rfl rfl rfl h170 ?_
      refine wpo_load1 (v := .int .i64 ((mAt ms k).t.to)) ot_3 rfl (k169.cell rfl) rfl ?_
      refine wpo_run rfl rfl rfl h170 ?_
      refine wpo_call (vs := [.slice a ms.length c, .int .i64 ((mAt ms k).t.to), .int .i64 1]) gf_103 (args_cons rfl (args_cons rfl (args_cons rfl args_nil))) rfl (kindAt_c ((mAt ms k).t.to) 1 (by omega) _ ms _ _ (TabAt.low ht hb155) hlen (by omega)) ?_
      rintro _ w174 ⟨rfl, hg175⟩
      have hb176 := low0 hb155 hg175
      refine wpo_run rfl rfl rfl h170 ?_
      refine wpo_not (b' := !kindAt (tabT ms) ((mAt ms k).t.to) 1) rfl rfl rfl ?_
      refine wpo_pickt (v := .bool (!kindAt (tabT ms) ((mAt ms k).t.to) 1)) rfl h170 rfl rfl ?_
      exact wpo_nil ⟨⟨e128, e129, e130, e131, e132, e127, (congrArg Value.bool (by first | (simp only [h113, h119, h135, h156, h162, h170, b0, b1, b2, b3, b4, b5, b6, b7, b8, b9]; done) | simp [h113, h119, h135, h156, h162, h170]))⟩, hg175⟩
     ·
      have h177 := of_decide_eq_false h170
      iterate 5 refine wpo_pass rfl rfl rfl h170 rfl ?_
      refine wpo_pickf (v := .bool false) rfl h170 rfl rfl ?_
      exact wpo_nil ⟨⟨e128, e129, e130, e131, e132, e127, (congrArg Value.bool (by first | (simp only [h113, h119, h135, h156, h162, h170, b0, b1, b2, b3, b4, b5, b6, b7, b8, b9]; done) | simp [h113, h119, h135, h156, h162, h170]))⟩, (World.grownBy.refl _ _)⟩
    ·
     rintro f178 w179 ⟨⟨e180, e181, e182, e183, e184, e185, e186⟩, hg187⟩
     have hb188 := low0 hb155 hg187
     refine wpf_cond e186 (fun h189 => ?_) (fun h189 => ?_)
     ·
      have h190 := and_l h189
      have hgt191 := th_gate h162 h190
      have h192 := of_decide_eq_true h190
      have h193 := and_r h189
      have h194 := nt_t h193
      refine wpf_seq_region ?_
      have k195 := ((((k134.grown0 hN148.grw).grown hS151.grw (some_ne (by omega))).grown0 hg154).grown0 hg187)
      refine wpo_store1 (v := .bool false) (cs' := #[.bool false]) ot_4 e182 rfl rfl k195 (Nat.le_of_ble_eq_true rfl) rfl ?_
      intro w196 hS197
      have hb198 := low1 hb188 hS197.grw (by omega)
      refine wpo_nil ?_
      refine wpf_ret ?_
      refine blk_r ?_
      refine thn_r ?_
      refine thn_r ?_
      refine blk_r ?_
      refine thn_r ?_
      exact endA (resC rfl (resCell_mk1 ot_4 e182 (hS197.blk.cell rfl))) ⟨congrArg Value.bool (tabi_no (k := k) (by omega) (by unfold headOk; rw [nt_t (gate_i.symm.trans h189), Bool.and_false])).symm, hb198⟩
     ·
      refine wpf_skip ?_
      refine blk_n ?_
      refine thn_n ?_
      refine wpf_region ?_
      refine wpo_add (c := (k : Int) + 1) e185 rfl (by omega) (by omega) (by omega) rfl ?_
      refine wpo_move (v := .int .i64 ((k : Int) + 1)) rfl rfl ?_
      refine wpo_nil ?_
      refine thn_n ?_
      have k199 := ((((k133.grown0 hN148.grw).grown hS151.grw (some_ne (by omega))).grown0 hg154).grown0 hg187)
      have k200 := ((((k134.grown0 hN148.grw).grown hS151.grw (some_ne (by omega))).grown0 hg154).grown0 hg187)
      exact ⟨ms.length - (k + 1), by omega, (k + 1), rfl, (by omega), (take_all_succ (p := headOk (tabT ms)) hall (tab_at (by omega)) (by unfold headOk; rw [h162, nt_f (gate_i.symm.trans h189)]; rfl)), rfl, e180, e181, e182, e183, e184, hb188, k199, k200⟩
  ·
   have h201 := of_decide_eq_false h135
   refine wpf_exit ?_
   refine thn_e ?_
   refine thn_e ?_
   refine blk_e ?_
   refine thn_n ?_
   refine wpa_seqT ?_
   refine wpa_seq_region ?_
   refine wpo_load1 (v := .slice a ms.length c) ot_54 e129 (k133.cell rfl) rfl ?_
   refine wpo_call (vs := [.slice a ms.length c]) gf_104 (args_cons rfl args_nil) rfl (allRights_c _ ms _ _) ?_
   rintro _ w206 ⟨B202, rfl, hge203, k204, hg205⟩
   have hb207 := low0 hb125 hg205
   have hlB202 := Nat.le_trans hb125.size hge203
   have lt_B101_B202 := Nat.lt_of_lt_of_le (k133).lt hge203
   have lt_B105_B202 := Nat.lt_of_lt_of_le (k134).lt hge203
   refine wpo_nil ?_
   have k208 := (k133.grown0 hg205)
   have k209 := (k134.grown0 hg205)
   refine wpa_gen (fun f' => f' 1 = .pointer (some ⟨B101, 0, none⟩) ∧ f' 2 = .pointer (some ⟨B105, 0, none⟩) ∧ f' 31 = .func (.func 115) #[] #[.pointer (some ⟨B202, 0, none⟩)]) ⟨e129, e130, rfl⟩ ?_
   rintro fT ⟨e1, e2, e3⟩ a0 ha
   obtain ⟨tm, df⟩ := a0
   obtain rfl : df = [] := ha.defers
   have hlb2 : B105 < w206.heap.size := (k209).lt
   refine wpIn_block ?_
   refine wpIn_rangeFunc_ownH (F := Fence.wide) (n := 9) rfl (by omega) (gf := 115) (lb := #[.pointer (some ⟨B202, 0, none⟩)]) (by rw [ha.eval]; exact e3) trivial (enters_of Try.func115 (by kernel_rfl) rfl) (rights_stops 8 w206 B202 ms a c (TabAt.low ht hb207) hlen hn k204) belowK_t (belowK_b (Nat.le_refl _)) (Below.refl _ _) (fun _ => rfl) (fun pre W => w.grownBy W none ∧ Blk W B101 54 #[.slice a ms.length c] ∧ Blk W B105 4 #[.bool false] ∧ pre.all (rightTo (tabT ms)) = true ∧ w206.heap.size ≤ W.heap.size) (fun c pre W => c = .ret ∧ w.grownBy W none ∧ Blk W B105 4 #[.bool false] ∧ pre.all (rightTo (tabT ms)) = false) (fun s A B row hs hg hr => ⟨own_grown hs.1 hg hb207.size hr, own_blk hs.2.1 hg hr, own_blk hs.2.2.1 hg hr, hs.2.2.2.1, Nat.le_trans hs.2.2.2.2 hg.size⟩) (fun c s A B row hs hg hr => ⟨hs.1, own_grown hs.2.1 hg hb207.size hr, own_blk hs.2.2.1 hg hr, hs.2.2.2⟩) ⟨hb207, k208, k209, rfl, Nat.le_refl _⟩ (fun x a' W => ∃ (Bx : Nat) (f' : Fr), Blk W Bx 29 x.cells.toArray ∧ FEq 53 a' f' ∧ f' 5 = .pointer (some ⟨Bx, 0, none⟩) ∧ f' 1 = .pointer (some ⟨B101, 0, none⟩) ∧ f' 2 = .pointer (some ⟨B105, 0, none⟩)) (fun x a' _ A B row hs hg hr => by obtain ⟨Bx, f', h1, h2⟩ := hs; exact ⟨Bx, f', own_blk h1 hg hr, h2⟩) ?assign ?body ?done ?stop
   case assign =>
    intro l pre x W K hi hK
    refine wpIn_mono ((?_ : Wpg (Fence.wide.inRound l) (9 - 1 - 1) Try.prog 53 (fun e f' w' => e = .normal ∧ ∃ Bx : Nat, W.grownBy w' none ∧ Blk w' Bx 29 x.cells.toArray ∧ f' 5 = .pointer (some ⟨Bx, 0, none⟩) ∧ f' 1 = .pointer (some ⟨B101, 0, none⟩) ∧ f' 2 = .pointer (some ⟨B105, 0, none⟩)) _ (up fT 32 (.agg x.cells.toArray)) W) _ (by have hp := ha.put (d := 32) rfl (.agg x.cells.toArray); simpa [Act.put] using hp)) ?_
    ·
     have hlW := hi.2.2.2.2
     refine wpg_region (wd_round l) ?_
     refine wpo_alloc (cs := #[.int .i64 0, .int .i64 0, .bool false, .bool false, .bool false]) zt_29 rfl rfl ?_
     intro B210 w211 hN212
     have hlB210 := hN_ge hN212 hi.1
     have hb213 := low0 hi.1 hN212.grw
     refine wpo_storen (vs := [.int .i64 x.th, .int .i64 x.ve, .bool x.rd, .bool x.wr, .bool x.wk]) (cs' := #[.int .i64 x.th, .int .i64 x.ve, .bool x.rd, .bool x.wr, .bool x.wk]) rt_29 rfl rfl rfl (by simp [Value.oneCell']) hN212.blk (Nat.le_of_ble_eq_true rfl) rfl ?_
     intro w214 hS215
     have hb216 := low1 hb213 hS215.grw (by omega)
     refine wpo_nil ?_
     exact ⟨rfl, B210, (low1 hN212.grw hS215.grw (Nat.le_trans ((World.grownBy.refl _ none)).size (Nat.le_of_eq hN212.eq.symm))), hS215.blk, rfl, e1, e2⟩
    ·
     rintro e a' w' ⟨f', hf', rfl, Bx, hg, hb, h5, h1, h2⟩
     exact hK a' w' (KeepsFrom.of_grownBy hg (fun j e => by cases e)) (below_none hg hi.2.2.2.2) ⟨low0 hi.1 hg, hi.2.1.grown0 hg, hi.2.2.1.grown0 hg, hi.2.2.2.1, Nat.le_trans hi.2.2.2.2 hg.size⟩ ⟨Bx, f', hb, hf', h5, h1, h2⟩
   case body =>
    rintro l pre x a' W hl hr hi ⟨Bx, f', hbx, hf', h5, h1, h2⟩ hlt
    refine wpIn_mono ((?_ : Wpg (Fence.wide.inRound l) (9 - 1 - 1) Try.prog 53 (fun e f'' w' => (e = .normal ∧ W.grownBy w' none ∧ rightTo (tabT ms) x = true) ∨ (e = .ret ∧ W.grownBy w' (some B105) ∧ w.grownBy w' none ∧ Blk w' B105 4 #[.bool false] ∧ rightTo (tabT ms) x = false)) _ f' W) a' hf') ?_
    ·
     refine wpg_block ?_
     refine wpg_seq ?_
     refine wpg_seq_region (wd_round l) ?_
     refine wpo_fieldAddr (o' := 0) fo_29_0 h5 rfl rfl ?_
     refine wpo_load1 (v := .int .i64 x.th) ot_3 rfl (hbx.cell rfl) rfl ?_
     refine wpo_eql (q := decide (x.th = 0)) rfl rfl rfl rfl ?_
     refine wpo_nil ?_
     refine wpg_cond rfl (fun h217 => ?_) (fun h217 => ?_)
     ·
      have h218 := of_decide_eq_true h217
      refine wpg_exit ?_
      refine thn_e ?_
      refine blk_e ?_
      exact Or.inl ⟨rfl, (World.grownBy.refl _ _), rightTo_z h217⟩
     ·
      have h219 := of_decide_eq_false h217
      refine wpg_skip ?_
      refine thn_n ?_
      refine wpg_seq_mid (fun f' w' => (f' 2 = .pointer (some ⟨B105, 0, none⟩) ∧ f' 52 = .bool ((!inR x.th 1 (ms.length : Int)) || (decide ((mAt ms ((x.th - 1).toNat)).t.ve < x.ve)))) ∧ W.grownBy w' none) ?_ ?_
      ·
       rcases bcases (!inR x.th 1 (ms.length : Int)) with h240 | h240
       ·
        have h241 := nt_t h240
        refine wpg_draw (wd_round l) (m := 15) (vals := [(36, .slice a ms.length c), (37, .pointer (some ⟨Bx, 0, none⟩)), (38, .int .i64 x.th), (39, .bool (inR x.th 1 (ms.length : Int))), (40, .bool (!inR x.th 1 (ms.length : Int))), (41, .bool (!inR x.th 1 (ms.length : Int))), (42, undef), (43, undef), (44, undef), (45, undef), (46, undef), (47, undef), (48, undef), (49, undef), (50, undef)]) (fun w' => W.grownBy w' none) mixed_ (by kernel_rfl) (grown_drew _) ?_ ?_
        ·
         refine yll_cons rfl (fun w251 hi252 => ?_) ?_
         ·
          have hb253 := low0 hi.1 hi252
          have k254 := (hi.2.1.grown0 hi252)
          refine wpo_load1 (v := .slice a ms.length c) ot_54 h1 (k254.cell rfl) rfl ?_
          exact wpo_nil ⟨rfl, hi252⟩
         refine yll_cons rfl (fun w255 hi256 => ?_) ?_
         ·
          have hb257 := low0 hi.1 hi256
          refine wpo_fieldAddr (o' := 0) fo_29_0 h5 rfl rfl ?_
          exact wpo_nil ⟨rfl, hi256⟩
         refine yll_cons rfl (fun w258 hi259 => ?_) ?_
         ·
          have hb260 := low0 hi.1 hi259
          have k261 := (hbx.grown0 hi259)
          refine wpo_load1 (v := .int .i64 x.th) ot_3 rfl (k261.cell rfl) rfl ?_
          exact wpo_nil ⟨rfl, hi259⟩
         refine yll_cons rfl (fun w262 hi263 => ?_) ?_
         ·
          have hb264 := low0 hi.1 hi263
          refine wpo_call (vs := [.slice a ms.length c, .int .i64 x.th]) gf_84 (args_cons rfl (args_cons rfl args_nil)) rfl (thingExists_c x.th _ _ _ _) ?_
          rintro _ w265 ⟨rfl, hg266⟩
          have hb267 := low0 hb264 hg266
          exact wpo_nil ⟨rfl, (grown_trans hi263 hg266)⟩
         refine yll_cons rfl (fun w268 hi269 => ?_) ?_
         ·
          have hb270 := low0 hi.1 hi269
          refine wpo_not (b' := !inR x.th 1 (ms.length : Int)) rfl rfl rfl ?_
          exact wpo_nil ⟨rfl, hi269⟩
         refine yll_cons rfl (fun w271 hi272 => ?_) ?_
         ·
          have hb273 := low0 hi.1 hi272
          refine wpo_move (v := .bool (!inR x.th 1 (ms.length : Int))) rfl rfl ?_
          exact wpo_nil ⟨rfl, hi272⟩
         refine yll_cons rfl (fun w274 hi275 => ?_) ?_
         ·
          have hb276 := low0 hi.1 hi275
          refine wpo_pass rfl rfl rfl h240 rfl ?_
          exact wpo_nil ⟨rfl, hi275⟩
         refine yll_cons rfl (fun w277 hi278 => ?_) ?_
         ·
          have hb279 := low0 hi.1 hi278
          refine wpo_pass rfl rfl rfl h240 rfl ?_
          exact wpo_nil ⟨rfl, hi278⟩
         refine yll_cons rfl (fun w280 hi281 => ?_) ?_
         ·
          have hb282 := low0 hi.1 hi281
          refine wpo_pass rfl rfl rfl h240 rfl ?_
          exact wpo_nil ⟨rfl, hi281⟩
         refine yll_cons rfl (fun w283 hi284 => ?_) ?_
         ·
          have hb285 := low0 hi.1 hi284
          refine wpo_pass rfl rfl rfl h240 rfl ?_
          exact wpo_nil ⟨rfl, hi284⟩
         refine yll_cons rfl (fun w286 hi287 => ?_) ?_
         ·
          have hb288 := low0 hi.1 hi287
          refine wpo_pass rfl rfl rfl h240 rfl ?_
          exact wpo_nil ⟨rfl, hi287⟩
         refine yll_cons rfl (fun w289 hi290 => ?_) ?_
         ·
          have hb291 := low0 hi.1 hi290
          refine wpo_pass rfl rfl rfl h240 rfl ?_
          exact wpo_nil ⟨rfl, hi290⟩
         refine yll_cons rfl (fun w292 hi293 => ?_) ?_
         ·
          have hb294 := low0 hi.1 hi293
          refine wpo_pass rfl rfl rfl h240 rfl ?_
          exact wpo_nil ⟨rfl, hi293⟩
         refine yll_cons rfl (fun w295 hi296 => ?_) ?_
         ·
          have hb297 := low0 hi.1 hi296
          refine wpo_pass rfl rfl rfl h240 rfl ?_
          exact wpo_nil ⟨rfl, hi296⟩
         refine yll_cons rfl (fun w298 hi299 => ?_) ?_
         ·
          have hb300 := low0 hi.1 hi299
          refine wpo_pass rfl rfl rfl h240 rfl ?_
          exact wpo_nil ⟨rfl, hi299⟩
         exact yll_nil
        ·
         intro w301 hi302
         have hb303 := low0 hi.1 hi302
         refine wpo_pass rfl rfl rfl h240 rfl ?_
         refine wpo_pickt (v := .bool true) rfl h240 rfl rfl ?_
         exact wpo_nil (thn_n ⟨⟨h2, (congrArg Value.bool (by first | (simp only [h217, h240, h241, b0, b1, b2, b3, b4, b5, b6, b7, b8, b9]; done) | simp [h217, h240, h241]))⟩, hi302⟩)
       ·
        have h304 := nt_f h240
        have hr305 := inR_iff.1 h304
        obtain ⟨b327, q328, o329, ha330, ho331, hr332⟩ := SlAt.at (TabAt.low ht hi.1).1 (map_get (mAt_get (show (x.th - 1).toNat < ms.length by omega)))
        have hle333 := TabLen.at hlen (mAt_get (show (x.th - 1).toNat < ms.length by omega))
        refine wpg_draw (wd_round l) (m := 15) (vals := [(36, .slice a ms.length c), (37, .pointer (some ⟨Bx, 0, none⟩)), (38, .int .i64 x.th), (39, .bool (inR x.th 1 (ms.length : Int))), (40, .bool (!inR x.th 1 (ms.length : Int))), (41, .bool (!inR x.th 1 (ms.length : Int))), (42, .pointer (some ⟨Bx, 1, none⟩)), (43, .int .i64 x.ve), (44, .slice a ms.length c), (45, .pointer (some ⟨Bx, 0, none⟩)), (46, .int .i64 x.th), (47, .int .i64 (x.th - 1)), (48, .pointer (some ⟨b327, o329, none⟩)), (49, .pointer (some ⟨b327, o329 + 3, none⟩)), (50, .int .i64 ((mAt ms ((x.th - 1).toNat)).t.ve))]) (fun w' => W.grownBy w' none) mixed_ (by kernel_rfl) (grown_drew _) ?_ ?_
        ·
         refine yll_cons rfl (fun w339 hi340 => ?_) ?_
         ·
          have hb341 := low0 hi.1 hi340
          have k342 := (hi.2.1.grown0 hi340)
          refine wpo_load1 (v := .slice a ms.length c) ot_54 h1 (k342.cell rfl) rfl ?_
          exact wpo_nil ⟨rfl, hi340⟩
         refine yll_cons rfl (fun w343 hi344 => ?_) ?_
         ·
          have hb345 := low0 hi.1 hi344
          refine wpo_fieldAddr (o' := 0) fo_29_0 h5 rfl rfl ?_
          exact wpo_nil ⟨rfl, hi344⟩
         refine yll_cons rfl (fun w346 hi347 => ?_) ?_
         ·
          have hb348 := low0 hi.1 hi347
          have k349 := (hbx.grown0 hi347)
          refine wpo_load1 (v := .int .i64 x.th) ot_3 rfl (k349.cell rfl) rfl ?_
          exact wpo_nil ⟨rfl, hi347⟩
         refine yll_cons rfl (fun w350 hi351 => ?_) ?_
         ·
          have hb352 := low0 hi.1 hi351
          refine wpo_call (vs := [.slice a ms.length c, .int .i64 x.th]) gf_84 (args_cons rfl (args_cons rfl args_nil)) rfl (thingExists_c x.th _ _ _ _) ?_
          rintro _ w353 ⟨rfl, hg354⟩
          have hb355 := low0 hb352 hg354
          exact wpo_nil ⟨rfl, (grown_trans hi351 hg354)⟩
         refine yll_cons rfl (fun w356 hi357 => ?_) ?_
         ·
          have hb358 := low0 hi.1 hi357
          refine wpo_not (b' := !inR x.th 1 (ms.length : Int)) rfl rfl rfl ?_
          exact wpo_nil ⟨rfl, hi357⟩
         refine yll_cons rfl (fun w359 hi360 => ?_) ?_
         ·
          have hb361 := low0 hi.1 hi360
          refine wpo_move (v := .bool (!inR x.th 1 (ms.length : Int))) rfl rfl ?_
          exact wpo_nil ⟨rfl, hi360⟩
         refine yll_cons rfl (fun w362 hi363 => ?_) ?_
         ·
          have hb364 := low0 hi.1 hi363
          refine wpo_run rfl rfl rfl h240 ?_
          refine wpo_fieldAddr (o' := 1) fo_29_1 h5 rfl rfl ?_
          exact wpo_nil ⟨rfl, hi363⟩
         refine yll_cons rfl (fun w365 hi366 => ?_) ?_
         ·
          have hb367 := low0 hi.1 hi366
          refine wpo_run rfl rfl rfl h240 ?_
          have k368 := (hbx.grown0 hi366)
          refine wpo_load1 (v := .int .i64 x.ve) ot_3 rfl (k368.cell rfl) rfl ?_
          exact wpo_nil ⟨rfl, hi366⟩
         refine yll_cons rfl (fun w369 hi370 => ?_) ?_
         ·
          have hb371 := low0 hi.1 hi370
          refine wpo_run rfl rfl rfl h240 ?_
          have k372 := (hi.2.1.grown0 hi370)
          refine wpo_load1 (v := .slice a ms.length c) ot_54 h1 (k372.cell rfl) rfl ?_
          exact wpo_nil ⟨rfl, hi370⟩
         refine yll_cons rfl (fun w373 hi374 => ?_) ?_
         ·
          have hb375 := low0 hi.1 hi374
          refine wpo_run rfl rfl rfl h240 ?_
          refine wpo_fieldAddr (o' := 0) fo_29_0 h5 rfl rfl ?_
          exact wpo_nil ⟨rfl, hi374⟩
         refine yll_cons rfl (fun w376 hi377 => ?_) ?_
         ·
          have hb378 := low0 hi.1 hi377
          refine wpo_run rfl rfl rfl h240 ?_
          have k379 := (hbx.grown0 hi377)
          refine wpo_load1 (v := .int .i64 x.th) ot_3 rfl (k379.cell rfl) rfl ?_
          exact wpo_nil ⟨rfl, hi377⟩
         refine yll_cons rfl (fun w380 hi381 => ?_) ?_
         ·
          have hb382 := low0 hi.1 hi381
          refine wpo_run rfl rfl rfl h240 ?_
          refine wpo_sub (c := x.th - 1) rfl rfl (by omega) (by omega) (by omega) rfl ?_
          exact wpo_nil ⟨rfl, hi381⟩
         refine yll_cons rfl (fun w383 hi384 => ?_) ?_
         ·
          have hb385 := low0 hi.1 hi384
          refine wpo_run rfl rfl rfl h240 ?_
          refine wpo_indexE es_54 rfl rfl ha330 ho331 (by omega) (by omega) rfl ?_
          exact wpo_nil ⟨rfl, hi384⟩
         refine yll_cons rfl (fun w386 hi387 => ?_) ?_
         ·
          have hb388 := low0 hi.1 hi387
          refine wpo_run rfl rfl rfl h240 ?_
          refine wpo_fieldAddr (o' := o329 + 3) fo_45_2 rfl rfl rfl ?_
          exact wpo_nil ⟨rfl, hi387⟩
         refine yll_cons rfl (fun w389 hi390 => ?_) ?_
         ·
          have hb391 := low0 hi.1 hi390
          refine wpo_run rfl rfl rfl h240 ?_
          refine wpo_load1 (v := .int .i64 ((mAt ms ((x.th - 1).toNat)).t.ve)) ot_3 rfl ((range_low hr332 hi390) 3 _ rfl) rfl ?_
          exact wpo_nil ⟨rfl, hi390⟩
         exact yll_nil
        ·
         intro w392 hi393
         have hb394 := low0 hi.1 hi393
         refine wpo_run rfl rfl rfl h240 ?_
         refine wpo_gtr (q := decide ((mAt ms ((x.th - 1).toNat)).t.ve < x.ve)) rfl rfl rfl rfl ?_
         refine wpo_pickf (v := .bool (decide ((mAt ms ((x.th - 1).toNat)).t.ve < x.ve))) rfl h240 rfl rfl ?_
         exact wpo_nil (thn_n ⟨⟨h2, (congrArg Value.bool (by first | (simp only [h217, h240, h304, b0, b1, b2, b3, b4, b5, b6, b7, b8, b9]; done) | simp [h217, h240, h304]))⟩, hi393⟩)
      ·
       rintro f395 w396 ⟨⟨e397, e398⟩, hg399⟩
       have hb400 := low0 hi.1 hg399
       refine wpg_cond e398 (fun h401 => ?_) (fun h401 => ?_)
       ·
        refine wpg_seq_region (wd_round l) ?_
        have k402 := (hi.2.2.1.grown0 hg399)
        refine wpo_store1 (v := .bool false) (cs' := #[.bool false]) ot_4 e397 rfl rfl k402 (Nat.le_of_ble_eq_true rfl) rfl ?_
        intro w403 hS404
        have hb405 := low1 hb400 hS404.grw (by omega)
        refine wpo_nil ?_
        refine wpg_ret ?_
        refine blk_r ?_
        exact Or.inr ⟨rfl, (grown_trans (grown_weak hg399) hS404.grw), hb405, hS404.blk, nt_t ((rightTo_i h217).symm.trans h401)⟩
       ·
        have h406 := or_l h401
        have h407 := nt_f h406
        have hr408 := inR_iff.1 h407
        have h409 := or_r h401
        have h410 := of_decide_eq_false h409
        refine wpg_skip ?_
        refine blk_n ?_
        exact Or.inl ⟨rfl, hg399, nt_f ((rightTo_i h217).symm.trans h401)⟩
    ·
     rintro e a2 w2 ⟨f2, hf2, (⟨rfl, hg, hx⟩ | ⟨rfl, hg, hg0, hb, hx⟩)⟩
     ·
      exact ⟨KeepsFrom.of_grownBy hg (fun j e => by cases e), below_none hg hi.2.2.2.2, low0 hi.1 hg, hi.2.1.grown0 hg, hi.2.2.1.grown0 hg, by rw [List.all_append, hi.2.2.2.1]; simp [hx], Nat.le_trans hi.2.2.2.2 hg.size⟩
     ·
      exact ⟨KeepsFrom.of_grownBy hg (fun j e => by cases e; exact hlb2), rfl, hg0, hb, by rw [List.all_append]; simp [hx]⟩
   case done =>
    intro D xs W hD hS hi hK
    subst hS
    have hDB : D ≠ B105 := by omega
    have hDl : D < W.heap.size := (Array.getElem?_eq_some_iff.1 hK).1
    have hsb := setB_setRow hi.2.2.1 #[.bool true]
    refine wpIn_seq ?_
    refine region1_unit wd_wide (fun c h => by cases h) rfl (w' := W.setRow B105 #[.bool true]) ?_ rfl ?_
    ·
     have he : Act.eval { tmps := tm, defers := [{ target := .collected D, args := #[] }] } = ev fT := ha.eval
     rw [he]
     have hst := run_store1 (w := W) (v := .bool true) (o := 0) ot_4 rfl hi.2.2.1 (by simp)
     simp [execOp, show ev fT (.tmp 2) = _ from e2, show ev fT (.const (.bool true)) = .bool true from rfl, hst]
    ·
     refine wpIn_ret ?_
     have hK' : (W.setRow B105 #[.bool true]).heap[D]? = some (.deferred (some [])) := (hsb.grw.block D hDl (fun e => hDB (Option.some.inj e))).trans hK
     have hgp := grownBy_putObj' (W.setRow B105 #[.bool true]) D (.deferred none)
     have hb2 := hsb.blk.grown hgp (some_ne (Ne.symm hDB))
     refine endD (v := .bool true) (a := { tmps := tm, defers := [] }) ha hK' (resC rfl (resCell_mk1 ot_4 e2 (hb2.cell rfl))) ⟨?_, ?_⟩
     ·
      rw [tabi_yes h119 hall (by omega), hi.2.2.2.1]
     ·
      exact low1 (low1 hi.1 hsb.grw (by omega)) hgp (Nat.le_trans hb207.size hD)
   case stop =>
    intro D c pre W hD hSp hx hK
    obtain ⟨rfl, hg, hb, hf⟩ := hx
    have hDB : D ≠ B105 := by omega
    have hgp := grownBy_putObj' W D (.deferred none)
    have hb2 := hb.grown hgp (some_ne (Ne.symm hDB))
    refine wpIn_ret ?_
    refine endD (v := .bool false) (a := { tmps := tm, defers := [] }) ha hK (resC rfl (resCell_mk1 ot_4 e2 (hb2.cell rfl))) ⟨?_, ?_⟩
    ·
     rw [tabi_yes h119 hall (by omega), all_prefix hSp hf]
    ·
     exact low1 hg hgp (Nat.le_trans hb207.size hD)
theorem gf_34 : goFn Try.prog 34 = true := by kernel_rfl
theorem gf_36 : goFn Try.prog 36 = true := by kernel_rfl
theorem gf_83 : goFn Try.prog 83 = true := by kernel_rfl
theorem gf_86 : goFn Try.prog 86 = true := by kernel_rfl
theorem es_66 : elemSz Try.prog 66 = some 5 := by kernel_rfl
theorem es_69 : elemSz Try.prog 69 = some 5 := by kernel_rfl
theorem fo_115_0 : fieldOff Try.prog 115 0 = some 0 := by kernel_rfl
theorem fo_115_1 : fieldOff Try.prog 115 1 = some 1 := by kernel_rfl
theorem fo_115_2 : fieldOff Try.prog 115 2 = some 2 := by kernel_rfl
theorem fo_115_3 : fieldOff Try.prog 115 3 = some 3 := by kernel_rfl
theorem fo_115_4 : fieldOff Try.prog 115 4 = some 4 := by kernel_rfl
theorem fo_76_0 : fieldOff Try.prog 76 0 = some 0 := by kernel_rfl
theorem fo_76_1 : fieldOff Try.prog 76 1 = some 1 := by kernel_rfl
theorem fo_76_2 : fieldOff Try.prog 76 2 = some 2 := by kernel_rfl
theorem fo_76_3 : fieldOff Try.prog 76 3 = some 3 := by kernel_rfl
theorem fo_76_4 : fieldOff Try.prog 76 4 = some 4 := by kernel_rfl
theorem gf_108 : goFn Try.prog 108 = true := by kernel_rfl
theorem gf_109 : goFn Try.prog 109 = true := by kernel_rfl
theorem gf_110 : goFn Try.prog 110 = true := by kernel_rfl
theorem gf_116 : goFn Try.prog 116 = true := by kernel_rfl
theorem gf_91 : goFn Try.prog 91 = true := by kernel_rfl
theorem gf_92 : goFn Try.prog 92 = true := by kernel_rfl
theorem gf_93 : goFn Try.prog 93 = true := by kernel_rfl
theorem gf_94 : goFn Try.prog 94 = true := by kernel_rfl
theorem gf_95 : goFn Try.prog 95 = true := by kernel_rfl
theorem mk_69 : mkTy Try.prog 69 = some (76, 5, 40, some (.agg #[.int .i64 0, .int .i64 0, .int .i64 0, .int .i64 0, .int .i64 0])) := by kernel_rfl
theorem rt_115 : rowTy Try.prog 115 = some 5 := by kernel_rfl
theorem rt_76 : rowTy Try.prog 76 = some 5 := by kernel_rfl
theorem zt_76 : zeroTy Try.prog 76 = some (.agg #[.int .i64 0, .int .i64 0, .int .i64 0, .int .i64 0, .int .i64 0]) := by kernel_rfl
theorem CallOk_c (c : Cl) (w : World) : CallsR Try.prog 116 #[.agg #[.int .i64 c.kind, .int .i64 c.run, .int .i64 c.a, .int .i64 c.b, .int .i64 c.n]] w (fun v w' => v = .bool (callOk c) ∧ w.grownBy w' none) := by
 refine calls_of_wpf (n := 26) Try.func116 rfl Try.ntmps116 rfl ?_
 have hb0 := World.grownBy.refl w none
 refine wpf_seq_region ?_
 refine wpo_box (v := .agg #[.int .i64 c.kind, .int .i64 c.run, .int .i64 c.a, .int .i64 c.b, .int .i64 c.n]) (cs := #[.int .i64 c.kind, .int .i64 c.run, .int .i64 c.a, .int .i64 c.b, .int .i64 c.n]) rfl rfl rfl ?_
 intro B101 w102 hN103
 have hlB101 := hN_ge hN103 hb0
 have hb104 := low0 hb0 hN103.grw
 refine wpo_assign (v := .bool false) rfl rfl ?_
 refine wpo_nil ?_
 refine wpf_seq_region_mid (fun f' w' => (f' 2 = .bool ((((inR c.kind 1 9 && inR c.run 1 8) && inR c.a 0 3) && inR c.b 0 3) && inR c.n 0 99)) ∧ w102.grownBy w' none) ?_ ?_
 ·
  refine wpo_fieldAddr (o' := 0) fo_76_0 rfl rfl rfl ?_
  refine wpo_load1 (v := .int .i64 c.kind) ot_3 rfl (hN103.blk.cell rfl) rfl ?_
  refine wpo_call (vs := [.int .i64 c.kind, .int .i64 1, .int .i64 9]) gf_69 (args_cons rfl (args_cons rfl (args_cons rfl args_nil))) rfl (inRange_c c.kind 1 9 _) ?_
  rintro _ w127 ⟨rfl, hg128⟩
  have hb129 := low0 hb104 hg128
  refine wpo_move (v := .bool (inR c.kind 1 9)) rfl rfl ?_
  rcases bcases (inR c.kind 1 9) with h130 | h130
  ·
   have hr131 := inR_iff.1 h130
   refine wpo_run rfl rfl rfl h130 ?_
   refine wpo_fieldAddr (o' := 1) fo_76_1 rfl rfl rfl ?_
   refine wpo_run rfl rfl rfl h130 ?_
   have k132 := (hN103.blk.grown0 hg128)
   refine wpo_load1 (v := .int .i64 c.run) ot_3 rfl (k132.cell rfl) rfl ?_
   refine wpo_run rfl rfl rfl h130 ?_
   refine wpo_call (vs := [.int .i64 c.run, .int .i64 1, .int .i64 8]) gf_69 (args_cons rfl (args_cons rfl (args_cons rfl args_nil))) rfl (inRange_c c.run 1 8 _) ?_
   rintro _ w133 ⟨rfl, hg134⟩
   have hb135 := low0 hb129 hg134
   refine wpo_pickt (v := .bool (inR c.run 1 8)) rfl h130 rfl rfl ?_
   refine wpo_move (v := .bool (inR c.run 1 8)) rfl rfl ?_
   rcases bcases (inR c.run 1 8) with h136 | h136
   ·
    have hr137 := inR_iff.1 h136
    refine wpo_run rfl rfl rfl h136 ?_
    refine wpo_fieldAddr (o' := 2) fo_76_2 rfl rfl rfl ?_
    refine wpo_run rfl rfl rfl h136 ?_
    have k138 := (k132.grown0 hg134)
    refine wpo_load1 (v := .int .i64 c.a) ot_3 rfl (k138.cell rfl) rfl ?_
    refine wpo_run rfl rfl rfl h136 ?_
    refine wpo_call (vs := [.int .i64 c.a, .int .i64 0, .int .i64 3]) gf_69 (args_cons rfl (args_cons rfl (args_cons rfl args_nil))) rfl (inRange_c c.a 0 3 _) ?_
    rintro _ w139 ⟨rfl, hg140⟩
    have hb141 := low0 hb135 hg140
    refine wpo_pickt (v := .bool (inR c.a 0 3)) rfl h136 rfl rfl ?_
    refine wpo_move (v := .bool (inR c.a 0 3)) rfl rfl ?_
    rcases bcases (inR c.a 0 3) with h142 | h142
    ·
     have hr143 := inR_iff.1 h142
     refine wpo_run rfl rfl rfl h142 ?_
     refine wpo_fieldAddr (o' := 3) fo_76_3 rfl rfl rfl ?_
     refine wpo_run rfl rfl rfl h142 ?_
     have k144 := (k138.grown0 hg140)
     refine wpo_load1 (v := .int .i64 c.b) ot_3 rfl (k144.cell rfl) rfl ?_
     refine wpo_run rfl rfl rfl h142 ?_
     refine wpo_call (vs := [.int .i64 c.b, .int .i64 0, .int .i64 3]) gf_69 (args_cons rfl (args_cons rfl (args_cons rfl args_nil))) rfl (inRange_c c.b 0 3 _) ?_
     rintro _ w145 ⟨rfl, hg146⟩
     have hb147 := low0 hb141 hg146
     refine wpo_pickt (v := .bool (inR c.b 0 3)) rfl h142 rfl rfl ?_
     refine wpo_move (v := .bool (inR c.b 0 3)) rfl rfl ?_
     rcases bcases (inR c.b 0 3) with h148 | h148
     ·
      have hr149 := inR_iff.1 h148
      refine wpo_run rfl rfl rfl h148 ?_
      refine wpo_fieldAddr (o' := 4) fo_76_4 rfl rfl rfl ?_
      refine wpo_run rfl rfl rfl h148 ?_
      have k150 := (k144.grown0 hg146)
      refine wpo_load1 (v := .int .i64 c.n) ot_3 rfl (k150.cell rfl) rfl ?_
      refine wpo_run rfl rfl rfl h148 ?_
      refine wpo_call (vs := [.int .i64 c.n, .int .i64 0, .int .i64 99]) gf_69 (args_cons rfl (args_cons rfl (args_cons rfl args_nil))) rfl (inRange_c c.n 0 99 _) ?_
      rintro _ w151 ⟨rfl, hg152⟩
      have hb153 := low0 hb147 hg152
      refine wpo_pickt (v := .bool (inR c.n 0 99)) rfl h148 rfl rfl ?_
      refine wpo_assign (v := .bool (inR c.n 0 99)) rfl rfl ?_
      exact wpo_nil ⟨(congrArg Value.bool (by first | (simp only [h130, h136, h142, h148, b0, b1, b2, b3, b4, b5, b6, b7, b8, b9]; done) | simp [h130, h136, h142, h148])), (grown_trans (grown_trans (grown_trans (grown_trans hg128 hg134) hg140) hg146) hg152)⟩
     ·
      iterate 3 refine wpo_pass rfl rfl rfl h148 rfl ?_
      refine wpo_pickf (v := .bool false) rfl h148 rfl rfl ?_
      refine wpo_assign (v := .bool false) rfl rfl ?_
      exact wpo_nil ⟨(congrArg Value.bool (by first | (simp only [h130, h136, h142, h148, b0, b1, b2, b3, b4, b5, b6, b7, b8, b9]; done) | simp [h130, h136, h142, h148])), (grown_trans (grown_trans (grown_trans hg128 hg134) hg140) hg146)⟩
    ·
     iterate 3 refine wpo_pass rfl rfl rfl h142 rfl ?_
     refine wpo_pickf (v := .bool false) rfl h142 rfl rfl ?_
     refine wpo_move (v := .bool false) rfl rfl ?_
     iterate 3 refine wpo_pass rfl rfl rfl rfl rfl ?_
     refine wpo_pickf (v := .bool false) rfl rfl rfl rfl ?_
     refine wpo_assign (v := .bool false) rfl rfl ?_
     exact wpo_nil ⟨(congrArg Value.bool (by first | (simp only [h130, h136, h142, b0, b1, b2, b3, b4, b5, b6, b7, b8, b9]; done) | simp [h130, h136, h142])), (grown_trans (grown_trans hg128 hg134) hg140)⟩
   ·
    iterate 3 refine wpo_pass rfl rfl rfl h136 rfl ?_
    refine wpo_pickf (v := .bool false) rfl h136 rfl rfl ?_
    refine wpo_move (v := .bool false) rfl rfl ?_
    iterate 3 refine wpo_pass rfl rfl rfl rfl rfl ?_
    refine wpo_pickf (v := .bool false) rfl rfl rfl rfl ?_
    refine wpo_move (v := .bool false) rfl rfl ?_
    iterate 3 refine wpo_pass rfl rfl rfl rfl rfl ?_
    refine wpo_pickf (v := .bool false) rfl rfl rfl rfl ?_
    refine wpo_assign (v := .bool false) rfl rfl ?_
    exact wpo_nil ⟨(congrArg Value.bool (by first | (simp only [h130, h136, b0, b1, b2, b3, b4, b5, b6, b7, b8, b9]; done) | simp [h130, h136])), (grown_trans hg128 hg134)⟩
  ·
   iterate 3 refine wpo_pass rfl rfl rfl h130 rfl ?_
   refine wpo_pickf (v := .bool false) rfl h130 rfl rfl ?_
   refine wpo_move (v := .bool false) rfl rfl ?_
   iterate 3 refine wpo_pass rfl rfl rfl rfl rfl ?_
   refine wpo_pickf (v := .bool false) rfl rfl rfl rfl ?_
   refine wpo_move (v := .bool false) rfl rfl ?_
   iterate 3 refine wpo_pass rfl rfl rfl rfl rfl ?_
   refine wpo_pickf (v := .bool false) rfl rfl rfl rfl ?_
   refine wpo_move (v := .bool false) rfl rfl ?_
   iterate 3 refine wpo_pass rfl rfl rfl rfl rfl ?_
   refine wpo_pickf (v := .bool false) rfl rfl rfl rfl ?_
   refine wpo_assign (v := .bool false) rfl rfl ?_
   exact wpo_nil ⟨(congrArg Value.bool (by first | (simp only [h130, b0, b1, b2, b3, b4, b5, b6, b7, b8, b9]; done) | simp [h130])), hg128⟩
 ·
  rintro f154 w155 ⟨e156, hg157⟩
  have hb158 := low0 hb104 hg157
  refine wpf_ret ?_
  refine ⟨.bool ((((inR c.kind 1 9 && inR c.run 1 8) && inR c.a 0 3) && inR c.b 0 3) && inR c.n 0 99), res1 rfl e156, ?_, hb158⟩
  rfl
theorem sCallOk_c (c : Cl) (w : World) : CallsR Try.prog 108 #[.agg #[.int .i64 c.kind, .int .i64 c.run, .int .i64 c.a, .int .i64 c.b, .int .i64 c.n]] w (fun v w' => v = .bool (callOk c) ∧ w.grownBy w' none) := by
 refine calls_of_wpf (n := 26) Try.func108 rfl Try.ntmps108 rfl ?_
 have hb0 := World.grownBy.refl w none
 refine wpf_seq_region ?_
 refine wpo_box (v := .agg #[.int .i64 c.kind, .int .i64 c.run, .int .i64 c.a, .int .i64 c.b, .int .i64 c.n]) (cs := #[.int .i64 c.kind, .int .i64 c.run, .int .i64 c.a, .int .i64 c.b, .int .i64 c.n]) rfl rfl rfl ?_
 intro B101 w102 hN103
 have hlB101 := hN_ge hN103 hb0
 have hb104 := low0 hb0 hN103.grw
 refine wpo_assign (v := .bool false) rfl rfl ?_
 refine wpo_nil ?_
 refine wpf_seq_region_mid (fun f' w' => (f' 2 = .bool ((((inR c.kind 1 9 && inR c.run 1 8) && inR c.a 0 3) && inR c.b 0 3) && inR c.n 0 99)) ∧ w102.grownBy w' none) ?_ ?_
 ·
  refine wpo_fieldAddr (o' := 0) fo_76_0 rfl rfl rfl ?_
  refine wpo_load1 (v := .int .i64 c.kind) ot_3 rfl (hN103.blk.cell rfl) rfl ?_
  refine wpo_call (vs := [.int .i64 c.kind, .int .i64 1, .int .i64 9]) gf_85 (args_cons rfl (args_cons rfl (args_cons rfl args_nil))) rfl (l6In_c c.kind 1 9 _) ?_
  rintro _ w127 ⟨rfl, hg128⟩
  have hb129 := low0 hb104 hg128
  refine wpo_move (v := .bool (inR c.kind 1 9)) rfl rfl ?_
  rcases bcases (inR c.kind 1 9) with h130 | h130
  ·
   have hr131 := inR_iff.1 h130
   refine wpo_run rfl rfl rfl h130 ?_
   refine wpo_fieldAddr (o' := 1) fo_76_1 rfl rfl rfl ?_
   refine wpo_run rfl rfl rfl h130 ?_
   have k132 := (hN103.blk.grown0 hg128)
   refine wpo_load1 (v := .int .i64 c.run) ot_3 rfl (k132.cell rfl) rfl ?_
   refine wpo_run rfl rfl rfl h130 ?_
   refine wpo_call (vs := [.int .i64 c.run, .int .i64 1, .int .i64 8]) gf_85 (args_cons rfl (args_cons rfl (args_cons rfl args_nil))) rfl (l6In_c c.run 1 8 _) ?_
   rintro _ w133 ⟨rfl, hg134⟩
   have hb135 := low0 hb129 hg134
   refine wpo_pickt (v := .bool (inR c.run 1 8)) rfl h130 rfl rfl ?_
   refine wpo_move (v := .bool (inR c.run 1 8)) rfl rfl ?_
   rcases bcases (inR c.run 1 8) with h136 | h136
   ·
    have hr137 := inR_iff.1 h136
    refine wpo_run rfl rfl rfl h136 ?_
    refine wpo_fieldAddr (o' := 2) fo_76_2 rfl rfl rfl ?_
    refine wpo_run rfl rfl rfl h136 ?_
    have k138 := (k132.grown0 hg134)
    refine wpo_load1 (v := .int .i64 c.a) ot_3 rfl (k138.cell rfl) rfl ?_
    refine wpo_run rfl rfl rfl h136 ?_
    refine wpo_call (vs := [.int .i64 c.a, .int .i64 0, .int .i64 3]) gf_85 (args_cons rfl (args_cons rfl (args_cons rfl args_nil))) rfl (l6In_c c.a 0 3 _) ?_
    rintro _ w139 ⟨rfl, hg140⟩
    have hb141 := low0 hb135 hg140
    refine wpo_pickt (v := .bool (inR c.a 0 3)) rfl h136 rfl rfl ?_
    refine wpo_move (v := .bool (inR c.a 0 3)) rfl rfl ?_
    rcases bcases (inR c.a 0 3) with h142 | h142
    ·
     have hr143 := inR_iff.1 h142
     refine wpo_run rfl rfl rfl h142 ?_
     refine wpo_fieldAddr (o' := 3) fo_76_3 rfl rfl rfl ?_
     refine wpo_run rfl rfl rfl h142 ?_
     have k144 := (k138.grown0 hg140)
     refine wpo_load1 (v := .int .i64 c.b) ot_3 rfl (k144.cell rfl) rfl ?_
     refine wpo_run rfl rfl rfl h142 ?_
     refine wpo_call (vs := [.int .i64 c.b, .int .i64 0, .int .i64 3]) gf_85 (args_cons rfl (args_cons rfl (args_cons rfl args_nil))) rfl (l6In_c c.b 0 3 _) ?_
     rintro _ w145 ⟨rfl, hg146⟩
     have hb147 := low0 hb141 hg146
     refine wpo_pickt (v := .bool (inR c.b 0 3)) rfl h142 rfl rfl ?_
     refine wpo_move (v := .bool (inR c.b 0 3)) rfl rfl ?_
     rcases bcases (inR c.b 0 3) with h148 | h148
     ·
      have hr149 := inR_iff.1 h148
      refine wpo_run rfl rfl rfl h148 ?_
      refine wpo_fieldAddr (o' := 4) fo_76_4 rfl rfl rfl ?_
      refine wpo_run rfl rfl rfl h148 ?_
      have k150 := (k144.grown0 hg146)
      refine wpo_load1 (v := .int .i64 c.n) ot_3 rfl (k150.cell rfl) rfl ?_
      refine wpo_run rfl rfl rfl h148 ?_
      refine wpo_call (vs := [.int .i64 c.n, .int .i64 0, .int .i64 99]) gf_85 (args_cons rfl (args_cons rfl (args_cons rfl args_nil))) rfl (l6In_c c.n 0 99 _) ?_
      rintro _ w151 ⟨rfl, hg152⟩
      have hb153 := low0 hb147 hg152
      refine wpo_pickt (v := .bool (inR c.n 0 99)) rfl h148 rfl rfl ?_
      refine wpo_assign (v := .bool (inR c.n 0 99)) rfl rfl ?_
      exact wpo_nil ⟨(congrArg Value.bool (by first | (simp only [h130, h136, h142, h148, b0, b1, b2, b3, b4, b5, b6, b7, b8, b9]; done) | simp [h130, h136, h142, h148])), (grown_trans (grown_trans (grown_trans (grown_trans hg128 hg134) hg140) hg146) hg152)⟩
     ·
      iterate 3 refine wpo_pass rfl rfl rfl h148 rfl ?_
      refine wpo_pickf (v := .bool false) rfl h148 rfl rfl ?_
      refine wpo_assign (v := .bool false) rfl rfl ?_
      exact wpo_nil ⟨(congrArg Value.bool (by first | (simp only [h130, h136, h142, h148, b0, b1, b2, b3, b4, b5, b6, b7, b8, b9]; done) | simp [h130, h136, h142, h148])), (grown_trans (grown_trans (grown_trans hg128 hg134) hg140) hg146)⟩
    ·
     iterate 3 refine wpo_pass rfl rfl rfl h142 rfl ?_
     refine wpo_pickf (v := .bool false) rfl h142 rfl rfl ?_
     refine wpo_move (v := .bool false) rfl rfl ?_
     iterate 3 refine wpo_pass rfl rfl rfl rfl rfl ?_
     refine wpo_pickf (v := .bool false) rfl rfl rfl rfl ?_
     refine wpo_assign (v := .bool false) rfl rfl ?_
     exact wpo_nil ⟨(congrArg Value.bool (by first | (simp only [h130, h136, h142, b0, b1, b2, b3, b4, b5, b6, b7, b8, b9]; done) | simp [h130, h136, h142])), (grown_trans (grown_trans hg128 hg134) hg140)⟩
   ·
    iterate 3 refine wpo_pass rfl rfl rfl h136 rfl ?_
    refine wpo_pickf (v := .bool false) rfl h136 rfl rfl ?_
    refine wpo_move (v := .bool false) rfl rfl ?_
    iterate 3 refine wpo_pass rfl rfl rfl rfl rfl ?_
    refine wpo_pickf (v := .bool false) rfl rfl rfl rfl ?_
    refine wpo_move (v := .bool false) rfl rfl ?_
    iterate 3 refine wpo_pass rfl rfl rfl rfl rfl ?_
    refine wpo_pickf (v := .bool false) rfl rfl rfl rfl ?_
    refine wpo_assign (v := .bool false) rfl rfl ?_
    exact wpo_nil ⟨(congrArg Value.bool (by first | (simp only [h130, h136, b0, b1, b2, b3, b4, b5, b6, b7, b8, b9]; done) | simp [h130, h136])), (grown_trans hg128 hg134)⟩
  ·
   iterate 3 refine wpo_pass rfl rfl rfl h130 rfl ?_
   refine wpo_pickf (v := .bool false) rfl h130 rfl rfl ?_
   refine wpo_move (v := .bool false) rfl rfl ?_
   iterate 3 refine wpo_pass rfl rfl rfl rfl rfl ?_
   refine wpo_pickf (v := .bool false) rfl rfl rfl rfl ?_
   refine wpo_move (v := .bool false) rfl rfl ?_
   iterate 3 refine wpo_pass rfl rfl rfl rfl rfl ?_
   refine wpo_pickf (v := .bool false) rfl rfl rfl rfl ?_
   refine wpo_move (v := .bool false) rfl rfl ?_
   iterate 3 refine wpo_pass rfl rfl rfl rfl rfl ?_
   refine wpo_pickf (v := .bool false) rfl rfl rfl rfl ?_
   refine wpo_assign (v := .bool false) rfl rfl ?_
   exact wpo_nil ⟨(congrArg Value.bool (by first | (simp only [h130, b0, b1, b2, b3, b4, b5, b6, b7, b8, b9]; done) | simp [h130])), hg128⟩
 ·
  rintro f154 w155 ⟨e156, hg157⟩
  have hb158 := low0 hb104 hg157
  refine wpf_ret ?_
  refine ⟨.bool ((((inR c.kind 1 9 && inR c.run 1 8) && inR c.a 0 3) && inR c.b 0 3) && inR c.n 0 99), res1 rfl e156, ?_, hb158⟩
  rfl
theorem l11Run_c (k : Int) (hk : -9223372036854775807 ≤ k) (w : World) (ms : List MTh) (a : Option Addr) (c : Nat) (ht : TabAt w a ms) (hlen : TabLen ms) (hn : ms.length ≤ 1048576) : CallsR Try.prog 109 #[.slice a ms.length c, .int .i64 k] w (fun v w' => v = .bool (kindAt (tabT ms) k 3) ∧ w.grownBy w' none) := by
 refine calls_of_wpf (n := 18) Try.func109 rfl Try.ntmps109 rfl ?_
 have hb0 := World.grownBy.refl w none
 refine wpf_seq_region ?_
 refine wpo_assign (v := .bool false) rfl rfl ?_
 refine wpo_nil ?_
 refine wpf_seq_region_mid (fun f' w' => (f' 4 = .bool (inR k 1 (ms.length : Int) && (decide ((mAt ms ((k - 1).toNat)).t.kind = 3)))) ∧ w.grownBy w' none) ?_ ?_
 ·
  refine wpo_move (v := .int .i64 k) rfl rfl ?_
  refine wpo_move (v := .slice a ms.length c) rfl rfl ?_
  refine wpo_len (by kernel_rfl) rfl rfl ?_
  refine wpo_call (vs := [.int .i64 k, .int .i64 1, .int .i64 (ms.length : Int)]) gf_85 (args_cons rfl (args_cons rfl (args_cons rfl args_nil))) rfl (l6In_c k 1 (ms.length : Int) _) ?_
  rintro _ w116 ⟨rfl, hg117⟩
  have hb118 := low0 hb0 hg117
  refine wpo_move (v := .bool (inR k 1 (ms.length : Int))) rfl rfl ?_
  rcases bcases (inR k 1 (ms.length : Int)) with h119 | h119
  ·
   have hr120 := inR_iff.1 h119
   refine wpo_run rfl rfl rfl h119 ?_
   refine wpo_move (v := .slice a ms.length c) rfl rfl ?_
   refine wpo_run rfl rfl rfl h119 ?_
   refine wpo_move (v := .int .i64 k) rfl rfl ?_
   refine wpo_run rfl rfl rfl h119 ?_
   refine wpo_sub (c := k - 1) rfl rfl (by omega) (by omega) (by omega) rfl ?_
   refine wpo_run rfl rfl rfl h119 ?_
   obtain ⟨b123, q124, o125, ha126, ho127, hr128⟩ := SlAt.at (TabAt.low ht hb118).1 (map_get (mAt_get (show (k - 1).toNat < ms.length by omega)))
   have hle129 := TabLen.at hlen (mAt_get (show (k - 1).toNat < ms.length by omega))
   refine wpo_indexE es_54 rfl rfl ha126 ho127 (by omega) (by omega) rfl ?_
   refine wpo_run rfl rfl rfl h119 ?_
   refine wpo_fieldAddr (o' := o125) fo_45_0 rfl rfl rfl ?_
   refine wpo_run rfl rfl rfl h119 ?_
   refine wpo_load1 (v := .int .i64 ((mAt ms ((k - 1).toNat)).t.kind)) ot_3 rfl (hr128 0 _ rfl) rfl ?_
   refine wpo_run rfl rfl rfl h119 ?_
   refine wpo_eql (q := decide ((mAt ms ((k - 1).toNat)).t.kind = 3)) rfl rfl rfl rfl ?_
   refine wpo_pickt (v := .bool (decide ((mAt ms ((k - 1).toNat)).t.kind = 3))) rfl h119 rfl rfl ?_
   refine wpo_assign (v := .bool (decide ((mAt ms ((k - 1).toNat)).t.kind = 3))) rfl rfl ?_
   exact wpo_nil ⟨(congrArg Value.bool (by first | (simp only [h119, b0, b1, b2, b3, b4, b5, b6, b7, b8, b9]; done) | simp [h119])), hg117⟩
  ·
   iterate 7 refine wpo_pass rfl rfl rfl h119 rfl ?_
   refine wpo_pickf (v := .bool false) rfl h119 rfl rfl ?_
   refine wpo_assign (v := .bool false) rfl rfl ?_
   exact wpo_nil ⟨(congrArg Value.bool (by first | (simp only [h119, b0, b1, b2, b3, b4, b5, b6, b7, b8, b9]; done) | simp [h119])), hg117⟩
 ·
  rintro f130 w131 ⟨e132, hg133⟩
  have hb134 := low0 hb0 hg133
  refine wpf_ret ?_
  refine ⟨.bool (inR k 1 (ms.length : Int) && (decide ((mAt ms ((k - 1).toNat)).t.kind = 3))), res1 rfl e132, ?_, hb134⟩
  exact congrArg Value.bool kindAt_m
theorem callPoss_c (q : Cl) (w : World) (ms : List MTh) (a : Option Addr) (c : Nat) (ht : TabAt w a ms) (hlen : TabLen ms) (hn : ms.length ≤ 1048576) : CallsR Try.prog 110 #[.slice a ms.length c, .agg #[.int .i64 q.kind, .int .i64 q.run, .int .i64 q.a, .int .i64 q.b, .int .i64 q.n]] w (fun v w' => v = .bool (callPoss (tabT ms) q) ∧ w.grownBy w' none) := by
 refine calls_of_wpf (n := 17) Try.func110 rfl Try.ntmps110 rfl ?_
 have hb0 := World.grownBy.refl w none
 refine wpf_seq_region ?_
 refine wpo_box (v := .agg #[.int .i64 q.kind, .int .i64 q.run, .int .i64 q.a, .int .i64 q.b, .int .i64 q.n]) (cs := #[.int .i64 q.kind, .int .i64 q.run, .int .i64 q.a, .int .i64 q.b, .int .i64 q.n]) rfl rfl rfl ?_
 intro B101 w102 hN103
 have hlB101 := hN_ge hN103 hb0
 have hb104 := low0 hb0 hN103.grw
 refine wpo_assign (v := .bool false) rfl rfl ?_
 refine wpo_nil ?_
 refine wpf_seq_region_mid (fun f' w' => (f' 4 = .bool ((tableOk (tabT ms) && callOk q) && kindAt (tabT ms) q.run 3)) ∧ w102.grownBy w' none) ?_ ?_
 ·
  refine wpo_move (v := .slice a ms.length c) rfl rfl ?_
  refine wpo_call (vs := [.slice a ms.length c]) gf_83 (args_cons rfl args_nil) rfl (TableOk_c  _ ms _ _ (TabAt.low ht hb104) hlen (by omega)) ?_
  rintro _ w119 ⟨rfl, hg120⟩
  have hb121 := low0 hb104 hg120
  refine wpo_move (v := .bool (tableOk (tabT ms))) rfl rfl ?_
  rcases bcases (tableOk (tabT ms)) with h122 | h122
  ·
   refine wpo_run rfl rfl rfl h122 ?_
   have k123 := (hN103.blk.grown0 hg120)
   refine wpo_loadn (vs := [.int .i64 q.kind, .int .i64 q.run, .int .i64 q.a, .int .i64 q.b, .int .i64 q.n]) rt_76 rfl rfl (k123.rangeL 0 5 rfl) rfl ?_
   refine wpo_run rfl rfl rfl h122 ?_
   refine wpo_call (vs := [.agg #[.int .i64 q.kind, .int .i64 q.run, .int .i64 q.a, .int .i64 q.b, .int .i64 q.n]]) gf_116 (args_cons rfl args_nil) rfl (CallOk_c q _) ?_
   rintro _ w124 ⟨rfl, hg125⟩
   have hb126 := low0 hb121 hg125
   refine wpo_pickt (v := .bool (callOk q)) rfl h122 rfl rfl ?_
   refine wpo_move (v := .bool (callOk q)) rfl rfl ?_
   rcases bcases (callOk q) with h127 | h127
   ·
    have hco128 := callOk_iff h127
    refine wpo_run rfl rfl rfl h127 ?_
    refine wpo_move (v := .slice a ms.length c) rfl rfl ?_
    refine wpo_run rfl rfl rfl h127 ?_
    refine wpo_fieldAddr (o' := 1) fo_76_1 rfl rfl rfl ?_
    refine wpo_run rfl rfl rfl h127 ?_
    have k129 := (k123.grown0 hg125)
    refine wpo_load1 (v := .int .i64 q.run) ot_3 rfl (k129.cell rfl) rfl ?_
    refine wpo_run rfl rfl rfl h127 ?_
    refine wpo_call (vs := [.slice a ms.length c, .int .i64 q.run, .int .i64 3]) gf_103 (args_cons rfl (args_cons rfl (args_cons rfl args_nil))) rfl (kindAt_c q.run 3 (by omega) _ ms _ _ (TabAt.low ht hb126) hlen (by omega)) ?_
    rintro _ w130 ⟨rfl, hg131⟩
    have hb132 := low0 hb126 hg131
    refine wpo_pickt (v := .bool (kindAt (tabT ms) q.run 3)) rfl h127 rfl rfl ?_
    refine wpo_assign (v := .bool (kindAt (tabT ms) q.run 3)) rfl rfl ?_
    exact wpo_nil ⟨(congrArg Value.bool (by first | (simp only [h122, h127, b0, b1, b2, b3, b4, b5, b6, b7, b8, b9]; done) | simp [h122, h127])), (grown_trans (grown_trans hg120 hg125) hg131)⟩
   ·
    iterate 4 refine wpo_pass rfl rfl rfl h127 rfl ?_
    refine wpo_pickf (v := .bool false) rfl h127 rfl rfl ?_
    refine wpo_assign (v := .bool false) rfl rfl ?_
    exact wpo_nil ⟨(congrArg Value.bool (by first | (simp only [h122, h127, b0, b1, b2, b3, b4, b5, b6, b7, b8, b9]; done) | simp [h122, h127])), (grown_trans hg120 hg125)⟩
  ·
   refine wpo_pass rfl rfl rfl h122 rfl ?_
   refine wpo_pass rfl rfl rfl h122 rfl ?_
   refine wpo_pickf (v := .bool false) rfl h122 rfl rfl ?_
   refine wpo_move (v := .bool false) rfl rfl ?_
   iterate 4 refine wpo_pass rfl rfl rfl rfl rfl ?_
   refine wpo_pickf (v := .bool false) rfl rfl rfl rfl ?_
   refine wpo_assign (v := .bool false) rfl rfl ?_
   exact wpo_nil ⟨(congrArg Value.bool (by first | (simp only [h122, b0, b1, b2, b3, b4, b5, b6, b7, b8, b9]; done) | simp [h122])), hg120⟩
 ·
  rintro f133 w134 ⟨e135, hg136⟩
  have hb137 := low0 hb104 hg136
  refine wpf_ret ?_
  refine ⟨.bool ((tableOk (tabT ms) && callOk q) && kindAt (tabT ms) q.run 3), res1 rfl e135, ?_, hb137⟩
  rfl
theorem l21Calls_c (w : World) (ms : List MTh) (a : Option Addr) (c : Nat) (ht : TabAt w a ms) (hlen : TabLen ms) (hn : ms.length ≤ 1048576) (cs : List Cl) (b : Option Addr) (e : Nat) (hs : SlAt w b 5 (cs.map Cl.cells)) (hm : cs.length ≤ 1048576) : CallsR Try.prog 91 #[.slice a ms.length c, .slice b cs.length e] w (fun v w' => v = .bool (callsIn_ (tabT ms) cs) ∧ w.grownBy w' none) := by
 refine calls_of_wpf (n := 31) Try.func91 rfl Try.ntmps91 rfl ?_
 have hb0 := World.grownBy.refl w none
 refine wpf_seq_region ?_
 refine wpo_assign (v := .bool false) rfl rfl ?_
 refine wpo_nil ?_
 refine wpf_seq ?_
 refine wpf_seq_region ?_
 refine wpo_assign (v := .int .i64 0) rfl rfl ?_
 refine wpo_nil ?_
 refine wpf_block ?_
 refine wpf_loopN (fun mm f' w' => ∃ (k : Nat), mm = cs.length - k ∧ k ≤ cs.length ∧ ((cs.take k).all (callIn (tabT ms))) = true ∧ f' 5 = .int .i64 (k : Int) ∧ f' 0 = .slice a ms.length c ∧ f' 1 = .slice b cs.length e ∧ w.grownBy w' none) (cs.length - 0) ⟨0, rfl, (Nat.zero_le _), rfl, rfl, rfl, rfl, hb0⟩ ?_
 rintro mm f101 w102 ⟨k, hm104, hk, hall, e105, e106, e107, hb103⟩
 refine wpf_seq ?_
 refine wpf_seq_region ?_
 refine wpo_move (v := .int .i64 (k : Int)) e105 rfl ?_
 refine wpo_move (v := .slice b cs.length e) e107 rfl ?_
 refine wpo_len (by kernel_rfl) rfl rfl ?_
 refine wpo_lss (q := decide ((k : Int) < (cs.length : Int))) rfl rfl rfl rfl ?_
 refine wpo_nil ?_
 refine wpf_cond rfl (fun h108 => ?_) (fun h108 => ?_)
 ·
  have h109 := of_decide_eq_true h108
  refine wpf_skip ?_
  refine thn_n ?_
  refine wpf_seq ?_
  refine wpf_block ?_
  refine wpf_seq_region_mid (fun f' w' => (f' 0 = .slice a ms.length c ∧ f' 1 = .slice b cs.length e ∧ f' 5 = .int .i64 (k : Int) ∧ f' 27 = .bool ((!callOk (cAt cs k)) || (!kindAt (tabT ms) ((cAt cs k).run) 3))) ∧ w102.grownBy w' none) ?_ ?_
  ·
   refine wpo_move (v := .slice b cs.length e) e107 rfl ?_
   refine wpo_move (v := .int .i64 (k : Int)) e105 rfl ?_
   obtain ⟨b137, q138, o139, ha140, ho141, hr142⟩ := SlAt.at (SlAt.low hs hb103) (map_get (cAt_get (show k < cs.length by omega)))
   refine wpo_indexE es_69 rfl rfl ha140 ho141 (by omega) (by omega) rfl ?_
   refine wpo_loadn (vs := [.int .i64 ((cAt cs k).kind), .int .i64 ((cAt cs k).run), .int .i64 ((cAt cs k).a), .int .i64 ((cAt cs k).b), .int .i64 ((cAt cs k).n)]) rt_76 rfl rfl (range_sub hr142 0 5 rfl) rfl ?_
   refine wpo_call (vs := [.agg #[.int .i64 ((cAt cs k).kind), .int .i64 ((cAt cs k).run), .int .i64 ((cAt cs k).a), .int .i64 ((cAt cs k).b), .int .i64 ((cAt cs k).n)]]) gf_108 (args_cons rfl args_nil) rfl (sCallOk_c (cAt cs k) _) ?_
   rintro _ w143 ⟨rfl, hg144⟩
   have hb145 := low0 hb103 hg144
   refine wpo_not (b' := !callOk (cAt cs k)) rfl rfl rfl ?_
   refine wpo_move (v := .bool (!callOk (cAt cs k))) rfl rfl ?_
   rcases bcases (!callOk (cAt cs k)) with h146 | h146
   ·
    have h147 := nt_t h146
    iterate 8 refine wpo_pass rfl rfl rfl h146 rfl ?_
    refine wpo_pickt (v := .bool true) rfl h146 rfl rfl ?_
    exact wpo_nil ⟨⟨e106, e107, e105, (congrArg Value.bool (by first | (simp only [h108, h146, h147, b0, b1, b2, b3, b4, b5, b6, b7, b8, b9]; done) | simp [h108, h146, h147]))⟩, hg144⟩
   ·
    have h148 := nt_f h146
    have hco149 := callOk_iff h148
    refine wpo_run rfl rfl rfl h146 ?_
    refine wpo_move (v := .slice a ms.length c) e106 rfl ?_
    refine wpo_run rfl rfl rfl h146 ?_
    refine wpo_move (v := .slice b cs.length e) e107 rfl ?_
    refine wpo_run rfl rfl rfl h146 ?_
    refine wpo_move (v := .int .i64 (k : Int)) e105 rfl ?_
    refine wpo_run rfl rfl rfl h146 ?_
    refine wpo_indexE es_69 rfl rfl ha140 ho141 (by omega) (by omega) rfl ?_
    refine wpo_run rfl rfl rfl h146 ?_
    refine wpo_fieldAddr (o' := o139 + 1) fo_76_1 rfl rfl rfl ?_
    refine wpo_run rfl rfl rfl h146 ?_
    refine wpo_load1 (v := .int .i64 ((cAt cs k).run)) ot_3 rfl ((range_low hr142 hg144) 1 _ rfl) rfl ?_
    refine wpo_run rfl rfl rfl h146 ?_
    refine wpo_call (vs := [.slice a ms.length c, .int .i64 ((cAt cs k).run)]) gf_109 (args_cons rfl (args_cons rfl args_nil)) rfl (l11Run_c ((cAt cs k).run) (by omega) _ ms _ _ (TabAt.low ht hb145) hlen (by omega)) ?_
    rintro _ w150 ⟨rfl, hg151⟩
    have hb152 := low0 hb145 hg151
    refine wpo_run rfl rfl rfl h146 ?_
    refine wpo_not (b' := !kindAt (tabT ms) ((cAt cs k).run) 3) rfl rfl rfl ?_
    refine wpo_pickf (v := .bool (!kindAt (tabT ms) ((cAt cs k).run) 3)) rfl h146 rfl rfl ?_
    exact wpo_nil ⟨⟨e106, e107, e105, (congrArg Value.bool (by first | (simp only [h108, h146, h148, b0, b1, b2, b3, b4, b5, b6, b7, b8, b9]; done) | simp [h108, h146, h148]))⟩, (grown_trans hg144 hg151)⟩
  ·
   rintro f153 w154 ⟨⟨e155, e156, e157, e158⟩, hg159⟩
   have hb160 := low0 hb103 hg159
   refine wpf_cond e158 (fun h161 => ?_) (fun h161 => ?_)
   ·
    refine wpf_seq_region ?_
    refine wpo_assign (v := .bool false) rfl rfl ?_
    refine wpo_nil ?_
    refine wpf_ret ?_
    refine blk_r ?_
    refine thn_r ?_
    refine thn_r ?_
    refine blk_r ?_
    refine thn_r ?_
    refine ⟨.bool false, res1 rfl rfl, ?_, hb160⟩
    exact congrArg Value.bool (calls_no (k := k) (cAt_get (by omega)) (nt_t (callIn_s.symm.trans h161))).symm
   ·
    have h162 := or_l h161
    have h163 := nt_f h162
    have hco164 := callOk_iff h163
    have h165 := or_r h161
    have h166 := nt_f h165
    refine wpf_skip ?_
    refine blk_n ?_
    refine thn_n ?_
    refine wpf_region ?_
    refine wpo_move (v := .int .i64 (k : Int)) e157 rfl ?_
    refine wpo_add (c := (k : Int) + 1) rfl rfl (by omega) (by omega) (by omega) rfl ?_
    refine wpo_assign (v := .int .i64 ((k : Int) + 1)) rfl rfl ?_
    refine wpo_nil ?_
    refine thn_n ?_
    exact ⟨cs.length - (k + 1), by omega, (k + 1), rfl, (by omega), (take_all_succ (p := callIn (tabT ms)) hall (cAt_get (by omega)) (nt_f (callIn_s.symm.trans h161))), rfl, e155, e156, hb160⟩
 ·
  have h167 := of_decide_eq_false h108
  refine wpf_exit ?_
  refine thn_e ?_
  refine thn_e ?_
  refine blk_e ?_
  refine thn_n ?_
  refine wpf_seq_region ?_
  refine wpo_move (v := .slice b cs.length e) e107 rfl ?_
  refine wpo_len (by kernel_rfl) rfl rfl ?_
  refine wpo_leq (q := decide ((cs.length : Int) ≤ 40)) rfl rfl rfl rfl ?_
  refine wpo_assign (v := .bool (decide ((cs.length : Int) ≤ 40))) rfl rfl ?_
  refine wpo_nil ?_
  refine wpf_ret ?_
  refine ⟨.bool (decide ((cs.length : Int) ≤ 40)), res1 rfl rfl, ?_, hb103⟩
  exact congrArg Value.bool (calls_yes hall (by omega))
theorem scriptOk_c (w : World) (ms : List MTh) (a : Option Addr) (c : Nat) (ht : TabAt w a ms) (hlen : TabLen ms) (hn : ms.length ≤ 1048576) (cs : List Cl) (b : Option Addr) (e : Nat) (hs : SlAt w b 5 (cs.map Cl.cells)) (hm : cs.length ≤ 1048576) : CallsR Try.prog 93 #[.slice a ms.length c, .slice b cs.length e] w (fun v w' => v = .bool (scriptOk (tabT ms) cs) ∧ w.grownBy w' none) := by
 refine calls_of_wpf (n := 26) Try.func93 rfl Try.ntmps93 rfl ?_
 have hb0 := World.grownBy.refl w none
 refine wpf_seq_region ?_
 refine wpo_assign (v := .bool false) rfl rfl ?_
 refine wpo_nil ?_
 refine wpf_seq ?_
 refine wpf_seq_region_mid (fun f' w' => (f' 0 = .slice a ms.length c ∧ f' 1 = .slice b cs.length e ∧ f' 4 = .bool false ∧ f' 14 = .bool ((!tableOk (tabT ms)) || (decide (40 < (cs.length : Int))))) ∧ w.grownBy w' none) ?_ ?_
 ·
  refine wpo_move (v := .slice a ms.length c) rfl rfl ?_
  refine wpo_call (vs := [.slice a ms.length c]) gf_83 (args_cons rfl args_nil) rfl (TableOk_c  _ ms _ _ (TabAt.low ht hb0) hlen (by omega)) ?_
  rintro _ w107 ⟨rfl, hg108⟩
  have hb109 := low0 hb0 hg108
  refine wpo_not (b' := !tableOk (tabT ms)) rfl rfl rfl ?_
  refine wpo_move (v := .bool (!tableOk (tabT ms))) rfl rfl ?_
  rcases bcases (!tableOk (tabT ms)) with h110 | h110
  ·
   have h111 := nt_t h110
   iterate 3 refine wpo_pass rfl rfl rfl h110 rfl ?_
   refine wpo_pickt (v := .bool true) rfl h110 rfl rfl ?_
   exact wpo_nil ⟨⟨rfl, rfl, rfl, (congrArg Value.bool (by first | (simp only [h110, h111, b0, b1, b2, b3, b4, b5, b6, b7, b8, b9]; done) | simp [h110, h111]))⟩, hg108⟩
  ·
   have h112 := nt_f h110
   refine wpo_run rfl rfl rfl h110 ?_
   refine wpo_move (v := .slice b cs.length e) rfl rfl ?_
   refine wpo_run rfl rfl rfl h110 ?_
   refine wpo_len (by kernel_rfl) rfl rfl ?_
   refine wpo_run rfl rfl rfl h110 ?_
   refine wpo_gtr (q := decide (40 < (cs.length : Int))) rfl rfl rfl rfl ?_
   refine wpo_pickf (v := .bool (decide (40 < (cs.length : Int)))) rfl h110 rfl rfl ?_
   exact wpo_nil ⟨⟨rfl, rfl, rfl, (congrArg Value.bool (by first | (simp only [h110, h112, b0, b1, b2, b3, b4, b5, b6, b7, b8, b9]; done) | simp [h110, h112]))⟩, hg108⟩
 ·
  rintro f113 w114 ⟨⟨e115, e116, e117, e118⟩, hg119⟩
  have hb120 := low0 hb0 hg119
  refine wpf_cond e118 (fun h121 => ?_) (fun h121 => ?_)
  ·
   refine wpf_seq_region ?_
   refine wpo_assign (v := .bool false) rfl rfl ?_
   refine wpo_nil ?_
   refine wpf_ret ?_
   refine thn_r ?_
   refine ⟨.bool false, res1 rfl rfl, ?_, hb120⟩
   exact congrArg Value.bool (script_no1 h121).symm
  ·
   have h122 := or_l h121
   have h123 := nt_f h122
   have h124 := or_r h121
   have h125 := of_decide_eq_false h124
   refine wpf_skip ?_
   refine thn_n ?_
   refine wpf_seq ?_
   refine wpf_seq_region ?_
   refine wpo_move (v := .slice b cs.length e) e116 rfl ?_
   refine wpo_len (by kernel_rfl) rfl rfl ?_
   refine wpo_move (v := .int .i64 0) rfl rfl ?_
   refine wpo_nil ?_
   refine wpf_block ?_
   refine wpf_loopN (fun mm f' w' => ∃ (k : Nat), mm = cs.length - k ∧ k ≤ cs.length ∧ ((cs.take k).all (callPoss (tabT ms))) = true ∧ f' 17 = .int .i64 (k : Int) ∧ f' 0 = .slice a ms.length c ∧ f' 15 = .slice b cs.length e ∧ f' 16 = .int .i64 (cs.length : Int) ∧ w.grownBy w' none) (cs.length - 0) ⟨0, rfl, (Nat.zero_le _), rfl, rfl, e115, rfl, rfl, hb120⟩ ?_
   rintro mm f126 w127 ⟨k, hm129, hk, hall, e130, e131, e132, e133, hb128⟩
   refine wpf_seq_region ?_
   refine wpo_lss (q := decide ((k : Int) < (cs.length : Int))) e130 e133 rfl rfl ?_
   refine wpo_nil ?_
   refine wpf_seq ?_
   refine wpf_cond rfl (fun h134 => ?_) (fun h134 => ?_)
   ·
    have h135 := of_decide_eq_true h134
    refine wpf_skip ?_
    refine thn_n ?_
    refine wpf_seq ?_
    refine wpf_block ?_
    refine wpf_seq_region ?_
    obtain ⟨b138, q139, o140, ha141, ho142, hr143⟩ := SlAt.at (SlAt.low hs hb128) (map_get (cAt_get (show k < cs.length by omega)))
    refine wpo_indexE es_69 e132 e130 ha141 ho142 (by omega) (by omega) rfl ?_
    refine wpo_loadn (vs := [.int .i64 ((cAt cs k).kind), .int .i64 ((cAt cs k).run), .int .i64 ((cAt cs k).a), .int .i64 ((cAt cs k).b), .int .i64 ((cAt cs k).n)]) rt_76 rfl rfl (range_sub hr143 0 5 rfl) rfl ?_
    refine wpo_alloc (cs := #[.int .i64 0, .int .i64 0, .int .i64 0, .int .i64 0, .int .i64 0]) zt_76 rfl rfl ?_
    intro B144 w145 hN146
    have hlB144 := hN_ge hN146 hb128
    have hb147 := low0 hb128 hN146.grw
    refine wpo_storen (vs := [.int .i64 ((cAt cs k).kind), .int .i64 ((cAt cs k).run), .int .i64 ((cAt cs k).a), .int .i64 ((cAt cs k).b), .int .i64 ((cAt cs k).n)]) (cs' := #[.int .i64 ((cAt cs k).kind), .int .i64 ((cAt cs k).run), .int .i64 ((cAt cs k).a), .int .i64 ((cAt cs k).b), .int .i64 ((cAt cs k).n)]) rt_76 rfl rfl rfl (by simp [Value.oneCell']) hN146.blk (Nat.le_of_ble_eq_true rfl) rfl ?_
    intro w148 hS149
    have hb150 := low1 hb147 hS149.grw (by omega)
    refine wpo_nil ?_
    refine wpf_seq_region ?_
    refine wpo_move (v := .slice a ms.length c) e131 rfl ?_
    refine wpo_loadn (vs := [.int .i64 ((cAt cs k).kind), .int .i64 ((cAt cs k).run), .int .i64 ((cAt cs k).a), .int .i64 ((cAt cs k).b), .int .i64 ((cAt cs k).n)]) rt_76 rfl rfl (hS149.blk.rangeL 0 5 rfl) rfl ?_
    refine wpo_call (vs := [.slice a ms.length c, .agg #[.int .i64 ((cAt cs k).kind), .int .i64 ((cAt cs k).run), .int .i64 ((cAt cs k).a), .int .i64 ((cAt cs k).b), .int .i64 ((cAt cs k).n)]]) gf_110 (args_cons rfl (args_cons rfl args_nil)) rfl (callPoss_c (cAt cs k) _ ms _ _ (TabAt.low ht hb150) hlen (by omega)) ?_
    rintro _ w151 ⟨rfl, hg152⟩
    have hb153 := low0 hb150 hg152
    refine wpo_not (b' := !callPoss (tabT ms) (cAt cs k)) rfl rfl rfl ?_
    refine wpo_nil ?_
    refine wpf_cond rfl (fun h154 => ?_) (fun h154 => ?_)
    ·
     have h155 := nt_t h154
     refine wpf_seq_region ?_
     refine wpo_assign (v := .bool false) rfl rfl ?_
     refine wpo_nil ?_
     refine wpf_ret ?_
     refine blk_r ?_
     refine thn_r ?_
     refine thn_r ?_
     refine blk_r ?_
     refine thn_r ?_
     refine ⟨.bool false, res1 rfl rfl, ?_, hb153⟩
     exact congrArg Value.bool (script_no2 (k := k) (cAt_get (by omega)) h155).symm
    ·
     have h156 := nt_f h154
     refine wpf_skip ?_
     refine blk_n ?_
     refine thn_n ?_
     refine wpf_region ?_
     refine wpo_add (c := (k : Int) + 1) e130 rfl (by omega) (by omega) (by omega) rfl ?_
     refine wpo_move (v := .int .i64 ((k : Int) + 1)) rfl rfl ?_
     refine wpo_nil ?_
     refine thn_n ?_
     exact ⟨cs.length - (k + 1), by omega, (k + 1), rfl, (by omega), (take_all_succ (p := callPoss (tabT ms)) hall (cAt_get (by omega)) h156), rfl, e131, e132, e133, hb153⟩
   ·
    have h157 := of_decide_eq_false h134
    refine wpf_exit ?_
    refine thn_e ?_
    refine thn_e ?_
    refine blk_e ?_
    refine thn_n ?_
    refine wpf_seq_region ?_
    refine wpo_assign (v := .bool true) rfl rfl ?_
    refine wpo_nil ?_
    refine wpf_ret ?_
    refine ⟨.bool true, res1 rfl rfl, ?_, hb128⟩
    exact congrArg Value.bool (script_yes h121 hall (by omega)).symm
theorem runLow1_c (k : Int) (l : Lab) (w : World) (ms : List MTh) (a : Option Addr) (c : Nat) (ht : TabAt w a ms) (hlen : TabLen ms) (hn : ms.length ≤ 1048576) (hk : 1 ≤ k ∧ k ≤ (ms.length : Int)) : CallsR Try.prog 94 #[.slice a ms.length c, .int .i64 k, .agg #[.int .i64 l.s, .int .i64 l.v]] w (fun v w' => v = .bool (labelFlow (mAt ms (k - 1).toNat).t.lab l) ∧ w.grownBy w' none) := by
 refine calls_of_wpf (n := 15) Try.func94 rfl Try.ntmps94 rfl ?_
 have hb0 := World.grownBy.refl w none
 refine wpf_seq_region ?_
 refine wpo_box (v := .agg #[.int .i64 l.s, .int .i64 l.v]) (cs := #[.int .i64 l.s, .int .i64 l.v]) rfl rfl rfl ?_
 intro B101 w102 hN103
 have hlB101 := hN_ge hN103 hb0
 have hb104 := low0 hb0 hN103.grw
 refine wpo_assign (v := .bool false) rfl rfl ?_
 refine wpo_nil ?_
 refine wpf_seq ?_
 obtain ⟨b131, q132, o133, ha134, ho135, hr136⟩ := SlAt.at (TabAt.low ht hb104).1 (map_get (mAt_get (show (k - 1).toNat < ms.length by omega)))
 have hle137 := TabLen.at hlen (mAt_get (show (k - 1).toNat < ms.length by omega))
 refine wpf_draw (m := 7) (vals := [(7, .slice a ms.length c), (8, .int .i64 k), (9, .int .i64 (k - 1)), (10, .pointer (some ⟨b131, o133, none⟩)), (11, .pointer (some ⟨b131, o133 + 1, none⟩)), (12, .agg #[.int .i64 ((mAt ms ((k - 1).toNat)).t.lab.s), .int .i64 ((mAt ms ((k - 1).toNat)).t.lab.v)]), (13, .agg #[.int .i64 l.s, .int .i64 l.v])]) (fun w' => w102.grownBy w' none) mixed_ (by kernel_rfl) (grown_drew _) ?_ ?_
 ·
  refine yll_cons rfl (fun w141 hi142 => ?_) ?_
  ·
   have hb143 := low0 hb104 hi142
   refine wpo_move (v := .slice a ms.length c) rfl rfl ?_
   exact wpo_nil ⟨rfl, hi142⟩
  refine yll_cons rfl (fun w144 hi145 => ?_) ?_
  ·
   have hb146 := low0 hb104 hi145
   refine wpo_move (v := .int .i64 k) rfl rfl ?_
   exact wpo_nil ⟨rfl, hi145⟩
  refine yll_cons rfl (fun w147 hi148 => ?_) ?_
  ·
   have hb149 := low0 hb104 hi148
   refine wpo_sub (c := k - 1) rfl rfl (by omega) (by omega) (by omega) rfl ?_
   exact wpo_nil ⟨rfl, hi148⟩
  refine yll_cons rfl (fun w150 hi151 => ?_) ?_
  ·
   have hb152 := low0 hb104 hi151
   refine wpo_indexE es_54 rfl rfl ha134 ho135 (by omega) (by omega) rfl ?_
   exact wpo_nil ⟨rfl, hi151⟩
  refine yll_cons rfl (fun w153 hi154 => ?_) ?_
  ·
   have hb155 := low0 hb104 hi154
   refine wpo_fieldAddr (o' := o133 + 1) fo_45_1 rfl rfl rfl ?_
   exact wpo_nil ⟨rfl, hi154⟩
  refine yll_cons rfl (fun w156 hi157 => ?_) ?_
  ·
   have hb158 := low0 hb104 hi157
   refine wpo_loadn (vs := [.int .i64 ((mAt ms ((k - 1).toNat)).t.lab.s), .int .i64 ((mAt ms ((k - 1).toNat)).t.lab.v)]) rt_40 rfl rfl (range_sub (range_low hr136 hi157) 1 2 rfl) rfl ?_
   exact wpo_nil ⟨rfl, hi157⟩
  refine yll_cons rfl (fun w159 hi160 => ?_) ?_
  ·
   have hb161 := low0 hb104 hi160
   have k162 := (hN103.blk.grown0 hi160)
   refine wpo_loadn (vs := [.int .i64 l.s, .int .i64 l.v]) rt_40 rfl rfl (k162.rangeL 0 2 rfl) rfl ?_
   exact wpo_nil ⟨rfl, hi160⟩
  exact yll_nil
 ·
  intro w163 hi164
  have hb165 := low0 hb104 hi164
  refine wpo_call (vs := [.agg #[.int .i64 ((mAt ms ((k - 1).toNat)).t.lab.s), .int .i64 ((mAt ms ((k - 1).toNat)).t.lab.v)], .agg #[.int .i64 l.s, .int .i64 l.v]]) gf_36 (args_cons rfl (args_cons rfl args_nil)) rfl (LabelFlow_c ((mAt ms ((k - 1).toNat)).t.lab) l _) ?_
  rintro _ w166 ⟨rfl, hg167⟩
  have hb168 := low0 hb165 hg167
  refine wpo_assign (v := .bool (labelFlow ((mAt ms ((k - 1).toNat)).t.lab) l)) rfl rfl ?_
  refine wpo_nil ?_
  refine thn_n ?_
  refine wpf_ret ?_
  refine ⟨.bool (labelFlow ((mAt ms ((k - 1).toNat)).t.lab) l), res1 rfl rfl, ?_, hb168⟩
  rfl
theorem szCallS_c (m : Int) (w : World) (xs : List Cl) (a : Option Addr) (c : Nat) (hn : xs.length ≤ 9223372036854775807) (hm : 0 ≤ m ∧ m ≤ 1048576) : CallsR Try.prog 40 #[.slice a xs.length c, .int .i64 m] w (fun v w' => ∃ n : Int, v = .int .i64 n ∧ (0 ≤ n → (xs.length : Int) + n ≤ m) ∧ -1 ≤ n ∧ n ≤ m ∧ w.grownBy w' none) := by
 refine calls_of_wpf (n := 12) Try.func40 rfl Try.ntmps40 rfl ?_
 have hb0 := World.grownBy.refl w none
 refine wpf_seq_region ?_
 refine wpo_assign (v := .int .i64 0) rfl rfl ?_
 refine wpo_nil ?_
 refine wpf_seq_region ?_
 refine wpo_move (v := .int .i64 m) rfl rfl ?_
 refine wpo_move (v := .slice a xs.length c) rfl rfl ?_
 refine wpo_len (by kernel_rfl) rfl rfl ?_
 refine wpo_sub (c := m - (xs.length : Int)) rfl rfl (by omega) (by omega) (by omega) rfl ?_
 refine wpo_assign (v := .int .i64 (m - (xs.length : Int))) rfl rfl ?_
 refine wpo_nil ?_
 refine wpf_seq ?_
 refine wpf_seq_region ?_
 refine wpo_move (v := .int .i64 (m - (xs.length : Int))) rfl rfl ?_
 refine wpo_lss (q := decide (m - (xs.length : Int) < 0)) rfl rfl rfl rfl ?_
 refine wpo_nil ?_
 refine wpf_cond rfl (fun h101 => ?_) (fun h101 => ?_)
 ·
  have h102 := of_decide_eq_true h101
  refine wpf_seq_region ?_
  refine wpo_assign (v := .int .i64 (-1)) rfl rfl ?_
  refine wpo_nil ?_
  refine wpf_ret ?_
  refine thn_r ?_
  refine ⟨.int .i64 (-1), res1 rfl rfl, (-1), rfl, by omega, by omega, by omega, hb0⟩
 ·
  have h103 := of_decide_eq_false h101
  refine wpf_skip ?_
  refine thn_n ?_
  refine wpf_seq_region ?_
  refine wpo_move (v := .int .i64 (m - (xs.length : Int))) rfl rfl ?_
  refine wpo_assign (v := .int .i64 (m - (xs.length : Int))) rfl rfl ?_
  refine wpo_nil ?_
  refine wpf_ret ?_
  refine ⟨.int .i64 (m - (xs.length : Int)), res1 rfl rfl, (m - (xs.length : Int)), rfl, by omega, by omega, by omega, hb0⟩
theorem toCall_c (q : Cl) (w : World) : CallsR Try.prog 92 #[.agg #[.int .i64 q.kind, .int .i64 q.run, .int .i64 q.a, .int .i64 q.b, .int .i64 q.n]] w (fun v w' => v = .agg #[.int .i64 q.kind, .int .i64 q.run, .int .i64 q.a, .int .i64 q.b, .int .i64 q.n] ∧ w.grownBy w' none) := by
 refine calls_of_wpf (n := 20) Try.func92 rfl Try.ntmps92 rfl ?_
 have hb0 := World.grownBy.refl w none
 refine wpf_seq_region ?_
 refine wpo_box (v := .agg #[.int .i64 q.kind, .int .i64 q.run, .int .i64 q.a, .int .i64 q.b, .int .i64 q.n]) (cs := #[.int .i64 q.kind, .int .i64 q.run, .int .i64 q.a, .int .i64 q.b, .int .i64 q.n]) rfl rfl rfl ?_
 intro B101 w102 hN103
 have hlB101 := hN_ge hN103 hb0
 have hb104 := low0 hb0 hN103.grw
 refine wpo_alloc (cs := #[.int .i64 0, .int .i64 0, .int .i64 0, .int .i64 0, .int .i64 0]) zt_76 rfl rfl ?_
 intro B105 w106 hN107
 have hlB105 := hN_ge hN107 hb104
 have lt_B101_B105 := hN_gtl hN107 (hN103.blk).lt
 have hb108 := low0 hb104 hN107.grw
 refine wpo_nil ?_
 refine wpf_seq_region ?_
 refine wpo_alloc (cs := #[.int .i64 0, .int .i64 0, .int .i64 0, .int .i64 0, .int .i64 0]) zt_76 rfl rfl ?_
 intro B109 w110 hN111
 have hlB109 := hN_ge hN111 hb108
 have k112 := (hN103.blk.grown0 hN107.grw)
 have lt_B101_B109 := hN_gtl hN111 (k112).lt
 have lt_B105_B109 := hN_gtl hN111 (hN107.blk).lt
 have hb113 := low0 hb108 hN111.grw
 refine wpo_nil ?_
 refine wpf_seq_region ?_
 refine wpo_fieldAddr (o' := 0) fo_115_0 rfl rfl rfl ?_
 have k114 := (k112.grown0 hN111.grw)
 refine wpo_load1 (v := .int .i64 q.kind) ot_3 rfl (k114.cell rfl) rfl ?_
 refine wpo_fieldAddr (o' := 0) fo_76_0 rfl rfl rfl ?_
 refine wpo_store1 (v := .int .i64 q.kind) (cs' := #[.int .i64 q.kind, .int .i64 0, .int .i64 0, .int .i64 0, .int .i64 0]) ot_3 rfl rfl rfl hN111.blk (Nat.le_of_ble_eq_true rfl) rfl ?_
 intro w115 hS116
 have hb117 := low1 hb113 hS116.grw (by omega)
 refine wpo_nil ?_
 refine wpf_seq_region ?_
 refine wpo_fieldAddr (o' := 1) fo_115_1 rfl rfl rfl ?_
 have k118 := (k114.grown hS116.grw (some_ne (by omega)))
 refine wpo_load1 (v := .int .i64 q.run) ot_3 rfl (k118.cell rfl) rfl ?_
 refine wpo_fieldAddr (o' := 1) fo_76_1 rfl rfl rfl ?_
 refine wpo_store1 (v := .int .i64 q.run) (cs' := #[.int .i64 q.kind, .int .i64 q.run, .int .i64 0, .int .i64 0, .int .i64 0]) ot_3 rfl rfl rfl hS116.blk (Nat.le_of_ble_eq_true rfl) rfl ?_
 intro w119 hS120
 have hb121 := low1 hb117 hS120.grw (by omega)
 refine wpo_nil ?_
 refine wpf_seq_region ?_
 refine wpo_fieldAddr (o' := 2) fo_115_2 rfl rfl rfl ?_
 have k122 := (k118.grown hS120.grw (some_ne (by omega)))
 refine wpo_load1 (v := .int .i64 q.a) ot_3 rfl (k122.cell rfl) rfl ?_
 refine wpo_fieldAddr (o' := 2) fo_76_2 rfl rfl rfl ?_
 refine wpo_store1 (v := .int .i64 q.a) (cs' := #[.int .i64 q.kind, .int .i64 q.run, .int .i64 q.a, .int .i64 0, .int .i64 0]) ot_3 rfl rfl rfl hS120.blk (Nat.le_of_ble_eq_true rfl) rfl ?_
 intro w123 hS124
 have hb125 := low1 hb121 hS124.grw (by omega)
 refine wpo_nil ?_
 refine wpf_seq_region ?_
 refine wpo_fieldAddr (o' := 3) fo_115_3 rfl rfl rfl ?_
 have k126 := (k122.grown hS124.grw (some_ne (by omega)))
 refine wpo_load1 (v := .int .i64 q.b) ot_3 rfl (k126.cell rfl) rfl ?_
 refine wpo_fieldAddr (o' := 3) fo_76_3 rfl rfl rfl ?_
 refine wpo_store1 (v := .int .i64 q.b) (cs' := #[.int .i64 q.kind, .int .i64 q.run, .int .i64 q.a, .int .i64 q.b, .int .i64 0]) ot_3 rfl rfl rfl hS124.blk (Nat.le_of_ble_eq_true rfl) rfl ?_
 intro w127 hS128
 have hb129 := low1 hb125 hS128.grw (by omega)
 refine wpo_nil ?_
 refine wpf_seq_region ?_
 refine wpo_fieldAddr (o' := 4) fo_115_4 rfl rfl rfl ?_
 have k130 := (k126.grown hS128.grw (some_ne (by omega)))
 refine wpo_load1 (v := .int .i64 q.n) ot_3 rfl (k130.cell rfl) rfl ?_
 refine wpo_fieldAddr (o' := 4) fo_76_4 rfl rfl rfl ?_
 refine wpo_store1 (v := .int .i64 q.n) (cs' := #[.int .i64 q.kind, .int .i64 q.run, .int .i64 q.a, .int .i64 q.b, .int .i64 q.n]) ot_3 rfl rfl rfl hS128.blk (Nat.le_of_ble_eq_true rfl) rfl ?_
 intro w131 hS132
 have hb133 := low1 hb129 hS132.grw (by omega)
 refine wpo_nil ?_
 refine wpf_seq_region ?_
 refine wpo_loadn (vs := [.int .i64 q.kind, .int .i64 q.run, .int .i64 q.a, .int .i64 q.b, .int .i64 q.n]) rt_76 rfl rfl (hS132.blk.rangeL 0 5 rfl) rfl ?_
 have k134 := ((((((hN107.blk.grown0 hN111.grw).grown hS116.grw (some_ne (by omega))).grown hS120.grw (some_ne (by omega))).grown hS124.grw (some_ne (by omega))).grown hS128.grw (some_ne (by omega))).grown hS132.grw (some_ne (by omega)))
 refine wpo_storen (vs := [.int .i64 q.kind, .int .i64 q.run, .int .i64 q.a, .int .i64 q.b, .int .i64 q.n]) (cs' := #[.int .i64 q.kind, .int .i64 q.run, .int .i64 q.a, .int .i64 q.b, .int .i64 q.n]) rt_76 rfl rfl rfl (by simp [Value.oneCell']) k134 (Nat.le_of_ble_eq_true rfl) rfl ?_
 intro w135 hS136
 have hb137 := low1 hb133 hS136.grw (by omega)
 refine wpo_nil ?_
 refine wpf_ret ?_
 refine ⟨.agg #[.int .i64 q.kind, .int .i64 q.run, .int .i64 q.a, .int .i64 q.b, .int .i64 q.n], resC rfl (resCell_mk (vs := [.int .i64 q.kind, .int .i64 q.run, .int .i64 q.a, .int .i64 q.b, .int .i64 q.n]) rt_76 rfl rfl (hS136.blk.rangeL 0 5 rfl)), ?_, hb137⟩
 rfl
theorem toCallS_c (w : World) (cs : List Cl) (b : Option Addr) (e : Nat) (hs : SlAt w b 5 (cs.map Cl.cells)) (hm : cs.length ≤ 1048576) : CallsR Try.prog 42 #[.slice b cs.length e] w (fun v w' => ∃ B : Nat, v = .slice (some ⟨B, 0, none⟩) cs.length cs.length ∧ w.heap.size ≤ B ∧ Blk w' B 76 (cs.flatMap Cl.cells).toArray ∧ w.grownBy w' none) := by
 refine calls_of_wpf (n := 23) Try.func42 rfl Try.ntmps42 rfl ?_
 have hb0 := World.grownBy.refl w none
 refine wpf_seq_region ?_
 refine wpo_assign (v := .slice none 0 0) rfl rfl ?_
 refine wpo_nil ?_
 refine wpf_seq_region ?_
 refine wpo_move (v := .slice b cs.length e) rfl rfl ?_
 refine wpo_len (by kernel_rfl) rfl rfl ?_
 refine wpo_make (g := Cl.cells) (z := Cl.zero) (c := cs.length) mk_69 rfl wide_cl (by omega) rfl rfl (by omega) (by omega) rfl ?_
 intro B101 w102 hN103
 have hlB101 := hN_ge hN103 hb0
 have hb104 := low0 hb0 hN103.grw
 refine wpo_assign (v := .slice (some ⟨B101, 0, none⟩) cs.length cs.length) rfl rfl ?_
 refine wpo_nil ?_
 refine wpf_seq ?_
 refine wpf_seq_region ?_
 refine wpo_assign (v := .int .i64 0) rfl rfl ?_
 refine wpo_nil ?_
 refine wpf_block ?_
 refine wpf_loopN (fun mm f' w' => ∃ (k : Nat), mm = cs.length - k ∧ k ≤ cs.length ∧ (fill cs Cl.zero k).length = cs.length ∧ f' 4 = .int .i64 (k : Int) ∧ f' 0 = .slice b cs.length e ∧ f' 2 = .slice none 0 0 ∧ f' 3 = .slice (some ⟨B101, 0, none⟩) cs.length cs.length ∧ w.grownBy w' none ∧ Blk w' B101 76 ((fill cs Cl.zero k).flatMap Cl.cells).toArray) (cs.length - 0) ⟨0, rfl, (Nat.zero_le _), (fill_len (Nat.zero_le _)), rfl, rfl, rfl, rfl, hb104, (by rw [fill_zero]; exact hN103.blk)⟩ ?_
 rintro mm f105 w106 ⟨k, hm108, hk, hfl, e109, e110, e111, e112, hb107, k113⟩
 refine wpf_seq ?_
 refine wpf_seq_region ?_
 refine wpo_move (v := .int .i64 (k : Int)) e109 rfl ?_
 refine wpo_move (v := .slice b cs.length e) e110 rfl ?_
 refine wpo_len (by kernel_rfl) rfl rfl ?_
 refine wpo_lss (q := decide ((k : Int) < (cs.length : Int))) rfl rfl rfl rfl ?_
 refine wpo_nil ?_
 refine wpf_cond rfl (fun h114 => ?_) (fun h114 => ?_)
 ·
  have h115 := of_decide_eq_true h114
  refine wpf_skip ?_
  refine thn_n ?_
  refine wpf_seq ?_
  refine wpf_block ?_
  refine wpf_region ?_
  refine wpo_move (v := .slice (some ⟨B101, 0, none⟩) cs.length cs.length) e112 rfl ?_
  refine wpo_move (v := .int .i64 (k : Int)) e109 rfl ?_
  refine wpo_move (v := .slice b cs.length e) e110 rfl ?_
  refine wpo_move (v := .int .i64 (k : Int)) e109 rfl ?_
  obtain ⟨b118, q119, o120, ha121, ho122, hr123⟩ := SlAt.at (SlAt.low hs hb107) (map_get (cAt_get (show k < cs.length by omega)))
  refine wpo_indexE es_66 rfl rfl ha121 ho122 (by omega) (by omega) rfl ?_
  refine wpo_loadn (vs := [.int .i64 ((cAt cs k).kind), .int .i64 ((cAt cs k).run), .int .i64 ((cAt cs k).a), .int .i64 ((cAt cs k).b), .int .i64 ((cAt cs k).n)]) rt_115 rfl rfl (range_sub hr123 0 5 rfl) rfl ?_
  refine wpo_call (vs := [.agg #[.int .i64 ((cAt cs k).kind), .int .i64 ((cAt cs k).run), .int .i64 ((cAt cs k).a), .int .i64 ((cAt cs k).b), .int .i64 ((cAt cs k).n)]]) gf_92 (args_cons rfl args_nil) rfl (toCall_c (cAt cs k) _) ?_
  rintro _ w124 ⟨rfl, hg125⟩
  have hb126 := low0 hb107 hg125
  refine wpo_indexAddr (o' := k * 5) es_69 rfl rfl (by omega) (by omega) (by omega) rfl ?_
  have k127 := (k113.grown0 hg125)
  refine wpo_storen (vs := [.int .i64 ((cAt cs k).kind), .int .i64 ((cAt cs k).run), .int .i64 ((cAt cs k).a), .int .i64 ((cAt cs k).b), .int .i64 ((cAt cs k).n)]) (cs' := (((fill cs Cl.zero k).set k (cAt cs k)).flatMap Cl.cells).toArray) rt_76 rfl rfl rfl (by simp [Value.oneCell']) k127 (rows_le wide_cl (by omega)) (rows_setA wide_cl (by omega) (cAt cs k)) ?_
  intro w128 hS129
  have hb130 := low1 hb126 hS129.grw (by omega)
  refine wpo_nil ?_
  refine blk_n ?_
  refine thn_n ?_
  refine wpf_region ?_
  refine wpo_move (v := .int .i64 (k : Int)) e109 rfl ?_
  refine wpo_add (c := (k : Int) + 1) rfl rfl (by omega) (by omega) (by omega) rfl ?_
  refine wpo_assign (v := .int .i64 ((k : Int) + 1)) rfl rfl ?_
  refine wpo_nil ?_
  refine thn_n ?_
  exact ⟨cs.length - (k + 1), by omega, (k + 1), rfl, (by omega), (fill_len (by omega)), rfl, e110, e111, e112, hb130, (by have kk := hS129.blk; rw [fill_set (cAt_get (show k < cs.length by omega))] at kk; exact kk)⟩
 ·
  have h131 := of_decide_eq_false h114
  refine wpf_exit ?_
  refine thn_e ?_
  refine thn_e ?_
  refine blk_e ?_
  refine thn_n ?_
  refine wpf_seq_region ?_
  refine wpo_move (v := .slice (some ⟨B101, 0, none⟩) cs.length cs.length) e112 rfl ?_
  refine wpo_assign (v := .slice (some ⟨B101, 0, none⟩) cs.length cs.length) rfl rfl ?_
  refine wpo_nil ?_
  refine wpf_ret ?_
  refine ⟨.slice (some ⟨B101, 0, none⟩) cs.length cs.length, res1 rfl rfl, B101, rfl, hlB101, ?_, hb107⟩
  have kk := k113
  rw [fill_all (by omega)] at kk
  exact kk
theorem eqCall_c (a b : Cl) (w : World) : CallsR Try.prog 95 #[.agg #[.int .i64 a.kind, .int .i64 a.run, .int .i64 a.a, .int .i64 a.b, .int .i64 a.n], .agg #[.int .i64 b.kind, .int .i64 b.run, .int .i64 b.a, .int .i64 b.b, .int .i64 b.n]] w (fun v w' => v = .bool (decide (a = b)) ∧ w.grownBy w' none) := by
 refine calls_of_wpf (n := 30) Try.func95 rfl Try.ntmps95 rfl ?_
 have hb0 := World.grownBy.refl w none
 refine wpf_seq_region ?_
 refine wpo_box (v := .agg #[.int .i64 a.kind, .int .i64 a.run, .int .i64 a.a, .int .i64 a.b, .int .i64 a.n]) (cs := #[.int .i64 a.kind, .int .i64 a.run, .int .i64 a.a, .int .i64 a.b, .int .i64 a.n]) rfl rfl rfl ?_
 intro B101 w102 hN103
 have hlB101 := hN_ge hN103 hb0
 have hb104 := low0 hb0 hN103.grw
 refine wpo_box (v := .agg #[.int .i64 b.kind, .int .i64 b.run, .int .i64 b.a, .int .i64 b.b, .int .i64 b.n]) (cs := #[.int .i64 b.kind, .int .i64 b.run, .int .i64 b.a, .int .i64 b.b, .int .i64 b.n]) rfl rfl rfl ?_
 intro B105 w106 hN107
 have hlB105 := hN_ge hN107 hb104
 have lt_B101_B105 := hN_gtl hN107 (hN103.blk).lt
 have hb108 := low0 hb104 hN107.grw
 refine wpo_assign (v := .bool false) rfl rfl ?_
 refine wpo_nil ?_
 refine wpf_seq ?_
 refine wpf_seq_region ?_
 refine wpo_fieldAddr (o' := 0) fo_76_0 rfl rfl rfl ?_
 have k109 := (hN103.blk.grown0 hN107.grw)
 refine wpo_load1 (v := .int .i64 a.kind) ot_3 rfl (k109.cell rfl) rfl ?_
 refine wpo_fieldAddr (o' := 0) fo_76_0 rfl rfl rfl ?_
 refine wpo_load1 (v := .int .i64 b.kind) ot_3 rfl (hN107.blk.cell rfl) rfl ?_
 refine wpo_neq (q := !(decide (a.kind = b.kind))) rfl rfl rfl rfl ?_
 refine wpo_nil ?_
 refine wpf_cond rfl (fun h110 => ?_) (fun h110 => ?_)
 ·
  have h111 := nt_t h110
  have h112 := of_decide_eq_false h111
  refine wpf_seq_region ?_
  refine wpo_assign (v := .bool false) rfl rfl ?_
  refine wpo_nil ?_
  refine wpf_ret ?_
  refine thn_r ?_
  refine ⟨.bool false, res1 rfl rfl, ?_, hb108⟩
  obtain ⟨a1, a2, a3, a4, a5⟩ := a
  obtain ⟨b1, b2, b3, b4, b5⟩ := b
  simp_all
 ·
  have h113 := nt_f h110
  have h114 := of_decide_eq_true h113
  refine wpf_skip ?_
  refine thn_n ?_
  refine wpf_seq ?_
  refine wpf_seq_region ?_
  refine wpo_fieldAddr (o' := 1) fo_76_1 rfl rfl rfl ?_
  refine wpo_load1 (v := .int .i64 a.run) ot_3 rfl (k109.cell rfl) rfl ?_
  refine wpo_fieldAddr (o' := 1) fo_76_1 rfl rfl rfl ?_
  refine wpo_load1 (v := .int .i64 b.run) ot_3 rfl (hN107.blk.cell rfl) rfl ?_
  refine wpo_neq (q := !(decide (a.run = b.run))) rfl rfl rfl rfl ?_
  refine wpo_nil ?_
  refine wpf_cond rfl (fun h115 => ?_) (fun h115 => ?_)
  ·
   have h116 := nt_t h115
   have h117 := of_decide_eq_false h116
   refine wpf_seq_region ?_
   refine wpo_assign (v := .bool false) rfl rfl ?_
   refine wpo_nil ?_
   refine wpf_ret ?_
   refine thn_r ?_
   refine ⟨.bool false, res1 rfl rfl, ?_, hb108⟩
   obtain ⟨a1, a2, a3, a4, a5⟩ := a
   obtain ⟨b1, b2, b3, b4, b5⟩ := b
   simp_all
  ·
   have h118 := nt_f h115
   have h119 := of_decide_eq_true h118
   refine wpf_skip ?_
   refine thn_n ?_
   refine wpf_seq ?_
   refine wpf_seq_region ?_
   refine wpo_fieldAddr (o' := 2) fo_76_2 rfl rfl rfl ?_
   refine wpo_load1 (v := .int .i64 a.a) ot_3 rfl (k109.cell rfl) rfl ?_
   refine wpo_fieldAddr (o' := 2) fo_76_2 rfl rfl rfl ?_
   refine wpo_load1 (v := .int .i64 b.a) ot_3 rfl (hN107.blk.cell rfl) rfl ?_
   refine wpo_neq (q := !(decide (a.a = b.a))) rfl rfl rfl rfl ?_
   refine wpo_nil ?_
   refine wpf_cond rfl (fun h120 => ?_) (fun h120 => ?_)
   ·
    have h121 := nt_t h120
    have h122 := of_decide_eq_false h121
    refine wpf_seq_region ?_
    refine wpo_assign (v := .bool false) rfl rfl ?_
    refine wpo_nil ?_
    refine wpf_ret ?_
    refine thn_r ?_
    refine ⟨.bool false, res1 rfl rfl, ?_, hb108⟩
    obtain ⟨a1, a2, a3, a4, a5⟩ := a
    obtain ⟨b1, b2, b3, b4, b5⟩ := b
    simp_all
   ·
    have h123 := nt_f h120
    have h124 := of_decide_eq_true h123
    refine wpf_skip ?_
    refine thn_n ?_
    refine wpf_seq ?_
    refine wpf_seq_region ?_
    refine wpo_fieldAddr (o' := 3) fo_76_3 rfl rfl rfl ?_
    refine wpo_load1 (v := .int .i64 a.b) ot_3 rfl (k109.cell rfl) rfl ?_
    refine wpo_fieldAddr (o' := 3) fo_76_3 rfl rfl rfl ?_
    refine wpo_load1 (v := .int .i64 b.b) ot_3 rfl (hN107.blk.cell rfl) rfl ?_
    refine wpo_neq (q := !(decide (a.b = b.b))) rfl rfl rfl rfl ?_
    refine wpo_nil ?_
    refine wpf_cond rfl (fun h125 => ?_) (fun h125 => ?_)
    ·
     have h126 := nt_t h125
     have h127 := of_decide_eq_false h126
     refine wpf_seq_region ?_
     refine wpo_assign (v := .bool false) rfl rfl ?_
     refine wpo_nil ?_
     refine wpf_ret ?_
     refine thn_r ?_
     refine ⟨.bool false, res1 rfl rfl, ?_, hb108⟩
     obtain ⟨a1, a2, a3, a4, a5⟩ := a
     obtain ⟨b1, b2, b3, b4, b5⟩ := b
     simp_all
    ·
     have h128 := nt_f h125
     have h129 := of_decide_eq_true h128
     refine wpf_skip ?_
     refine thn_n ?_
     refine wpf_seq ?_
     refine wpf_seq_region ?_
     refine wpo_fieldAddr (o' := 4) fo_76_4 rfl rfl rfl ?_
     refine wpo_load1 (v := .int .i64 a.n) ot_3 rfl (k109.cell rfl) rfl ?_
     refine wpo_fieldAddr (o' := 4) fo_76_4 rfl rfl rfl ?_
     refine wpo_load1 (v := .int .i64 b.n) ot_3 rfl (hN107.blk.cell rfl) rfl ?_
     refine wpo_neq (q := !(decide (a.n = b.n))) rfl rfl rfl rfl ?_
     refine wpo_nil ?_
     refine wpf_cond rfl (fun h130 => ?_) (fun h130 => ?_)
     ·
      have h131 := nt_t h130
      have h132 := of_decide_eq_false h131
      refine wpf_seq_region ?_
      refine wpo_assign (v := .bool false) rfl rfl ?_
      refine wpo_nil ?_
      refine wpf_ret ?_
      refine thn_r ?_
      refine ⟨.bool false, res1 rfl rfl, ?_, hb108⟩
      obtain ⟨a1, a2, a3, a4, a5⟩ := a
      obtain ⟨b1, b2, b3, b4, b5⟩ := b
      simp_all
     ·
      have h133 := nt_f h130
      have h134 := of_decide_eq_true h133
      refine wpf_skip ?_
      refine thn_n ?_
      refine wpf_seq_region ?_
      refine wpo_assign (v := .bool true) rfl rfl ?_
      refine wpo_nil ?_
      refine wpf_ret ?_
      refine ⟨.bool true, res1 rfl rfl, ?_, hb108⟩
      obtain ⟨a1, a2, a3, a4, a5⟩ := a
      obtain ⟨b1, b2, b3, b4, b5⟩ := b
      simp_all
theorem eqCallS_c (w : World) (cs : List Cl) (b : Option Addr) (e : Nat) (hs : SlAt w b 5 (cs.map Cl.cells)) (hm : cs.length ≤ 1048576) (ds : List Cl) (d : Option Addr) (e2 : Nat) (hd : SlAt w d 5 (ds.map Cl.cells)) (hm2 : ds.length ≤ 1048576) : CallsR Try.prog 44 #[.slice b cs.length e, .slice d ds.length e2] w (fun v w' => v = .bool (decide (cs = ds)) ∧ w.grownBy w' none) := by
 refine calls_of_wpf (n := 27) Try.func44 rfl Try.ntmps44 rfl ?_
 have hb0 := World.grownBy.refl w none
 refine wpf_seq_region ?_
 refine wpo_assign (v := .bool false) rfl rfl ?_
 refine wpo_nil ?_
 refine wpf_seq ?_
 refine wpf_seq_region ?_
 refine wpo_move (v := .slice b cs.length e) rfl rfl ?_
 refine wpo_len (by kernel_rfl) rfl rfl ?_
 refine wpo_move (v := .slice d ds.length e2) rfl rfl ?_
 refine wpo_len (by kernel_rfl) rfl rfl ?_
 refine wpo_neq (q := !(decide ((cs.length : Int) = (ds.length : Int)))) rfl rfl rfl rfl ?_
 refine wpo_nil ?_
 refine wpf_cond rfl (fun h101 => ?_) (fun h101 => ?_)
 ·
  have h102 := nt_t h101
  have h103 := of_decide_eq_false h102
  refine wpf_seq_region ?_
  refine wpo_assign (v := .bool false) rfl rfl ?_
  refine wpo_nil ?_
  refine wpf_ret ?_
  refine thn_r ?_
  refine ⟨.bool false, res1 rfl rfl, ?_, hb0⟩
  exact congrArg Value.bool (decide_eq_false (fun h => by have := congrArg List.length h; omega)).symm
 ·
  have h104 := nt_f h101
  have h105 := of_decide_eq_true h104
  refine wpf_skip ?_
  refine thn_n ?_
  refine wpf_seq ?_
  refine wpf_seq_region ?_
  refine wpo_assign (v := .int .i64 0) rfl rfl ?_
  refine wpo_nil ?_
  refine wpf_block ?_
  refine wpf_loopN (fun mm f' w' => ∃ (k : Nat), mm = cs.length - k ∧ k ≤ cs.length ∧ cs.take k = ds.take k ∧ f' 5 = .int .i64 (k : Int) ∧ f' 0 = .slice b cs.length e ∧ f' 1 = .slice d ds.length e2 ∧ w.grownBy w' none) (cs.length - 0) ⟨0, rfl, (Nat.zero_le _), rfl, rfl, rfl, rfl, hb0⟩ ?_
  rintro mm f106 w107 ⟨k, hm109, hk, ha, e110, e111, e112, hb108⟩
  refine wpf_seq ?_
  refine wpf_seq_region ?_
  refine wpo_move (v := .int .i64 (k : Int)) e110 rfl ?_
  refine wpo_move (v := .slice b cs.length e) e111 rfl ?_
  refine wpo_len (by kernel_rfl) rfl rfl ?_
  refine wpo_lss (q := decide ((k : Int) < (cs.length : Int))) rfl rfl rfl rfl ?_
  refine wpo_nil ?_
  refine wpf_cond rfl (fun h113 => ?_) (fun h113 => ?_)
  ·
   have h114 := of_decide_eq_true h113
   refine wpf_skip ?_
   refine thn_n ?_
   refine wpf_seq ?_
   refine wpf_block ?_
   refine wpf_seq ?_
   obtain ⟨b155, q156, o157, ha158, ho159, hr160⟩ := SlAt.at (SlAt.low hs hb108) (map_get (cAt_get (show k < cs.length by omega)))
   obtain ⟨b163, q164, o165, ha166, ho167, hr168⟩ := SlAt.at (SlAt.low hd hb108) (map_get (cAt_get (show k < ds.length by omega)))
   refine wpf_draw (m := 8) (vals := [(17, .slice b cs.length e), (18, .int .i64 (k : Int)), (19, .pointer (some ⟨b155, o157, none⟩)), (20, .agg #[.int .i64 ((cAt cs k).kind), .int .i64 ((cAt cs k).run), .int .i64 ((cAt cs k).a), .int .i64 ((cAt cs k).b), .int .i64 ((cAt cs k).n)]), (21, .slice d ds.length e2), (22, .int .i64 (k : Int)), (23, .pointer (some ⟨b163, o165, none⟩)), (24, .agg #[.int .i64 ((cAt ds k).kind), .int .i64 ((cAt ds k).run), .int .i64 ((cAt ds k).a), .int .i64 ((cAt ds k).b), .int .i64 ((cAt ds k).n)])]) (fun w' => w107.grownBy w' none) mixed_ (by kernel_rfl) (grown_drew _) ?_ ?_
   ·
    refine yll_cons rfl (fun w172 hi173 => ?_) ?_
    ·
     have hb174 := low0 hb108 hi173
     refine wpo_move (v := .slice b cs.length e) e111 rfl ?_
     exact wpo_nil ⟨rfl, hi173⟩
    refine yll_cons rfl (fun w175 hi176 => ?_) ?_
    ·
     have hb177 := low0 hb108 hi176
     refine wpo_move (v := .int .i64 (k : Int)) e110 rfl ?_
     exact wpo_nil ⟨rfl, hi176⟩
    refine yll_cons rfl (fun w178 hi179 => ?_) ?_
    ·
     have hb180 := low0 hb108 hi179
     refine wpo_indexE es_69 rfl rfl ha158 ho159 (by omega) (by omega) rfl ?_
     exact wpo_nil ⟨rfl, hi179⟩
    refine yll_cons rfl (fun w181 hi182 => ?_) ?_
    ·
     have hb183 := low0 hb108 hi182
     refine wpo_loadn (vs := [.int .i64 ((cAt cs k).kind), .int .i64 ((cAt cs k).run), .int .i64 ((cAt cs k).a), .int .i64 ((cAt cs k).b), .int .i64 ((cAt cs k).n)]) rt_76 rfl rfl (range_sub (range_low hr160 hi182) 0 5 rfl) rfl ?_
     exact wpo_nil ⟨rfl, hi182⟩
    refine yll_cons rfl (fun w184 hi185 => ?_) ?_
    ·
     have hb186 := low0 hb108 hi185
     refine wpo_move (v := .slice d ds.length e2) e112 rfl ?_
     exact wpo_nil ⟨rfl, hi185⟩
    refine yll_cons rfl (fun w187 hi188 => ?_) ?_
    ·
     have hb189 := low0 hb108 hi188
     refine wpo_move (v := .int .i64 (k : Int)) e110 rfl ?_
     exact wpo_nil ⟨rfl, hi188⟩
    refine yll_cons rfl (fun w190 hi191 => ?_) ?_
    ·
     have hb192 := low0 hb108 hi191
     refine wpo_indexE es_69 rfl rfl ha166 ho167 (by omega) (by omega) rfl ?_
     exact wpo_nil ⟨rfl, hi191⟩
    refine yll_cons rfl (fun w193 hi194 => ?_) ?_
    ·
     have hb195 := low0 hb108 hi194
     refine wpo_loadn (vs := [.int .i64 ((cAt ds k).kind), .int .i64 ((cAt ds k).run), .int .i64 ((cAt ds k).a), .int .i64 ((cAt ds k).b), .int .i64 ((cAt ds k).n)]) rt_76 rfl rfl (range_sub (range_low hr168 hi194) 0 5 rfl) rfl ?_
     exact wpo_nil ⟨rfl, hi194⟩
    exact yll_nil
   ·
    intro w196 hi197
    have hb198 := low0 hb108 hi197
    refine wpo_call (vs := [.agg #[.int .i64 ((cAt cs k).kind), .int .i64 ((cAt cs k).run), .int .i64 ((cAt cs k).a), .int .i64 ((cAt cs k).b), .int .i64 ((cAt cs k).n)], .agg #[.int .i64 ((cAt ds k).kind), .int .i64 ((cAt ds k).run), .int .i64 ((cAt ds k).a), .int .i64 ((cAt ds k).b), .int .i64 ((cAt ds k).n)]]) gf_95 (args_cons rfl (args_cons rfl args_nil)) rfl (eqCall_c (cAt cs k) (cAt ds k) _) ?_
    rintro _ w199 ⟨rfl, hg200⟩
    have hb201 := low0 hb198 hg200
    refine wpo_not (b' := !(decide ((cAt cs k) = (cAt ds k)))) rfl rfl rfl ?_
    refine wpo_nil ?_
    refine thn_n ?_
    refine wpf_cond rfl (fun h202 => ?_) (fun h202 => ?_)
    ·
     have h203 := nt_t h202
     have h204 := of_decide_eq_false h203
     refine wpf_seq_region ?_
     refine wpo_assign (v := .bool false) rfl rfl ?_
     refine wpo_nil ?_
     refine wpf_ret ?_
     refine blk_r ?_
     refine thn_r ?_
     refine thn_r ?_
     refine blk_r ?_
     refine thn_r ?_
     refine ⟨.bool false, res1 rfl rfl, ?_, hb201⟩
     exact congrArg Value.bool (decide_eq_false (ne_of_at (k := k) (cAt_get (by omega)) (cAt_get (by omega)) (of_decide_eq_false h203))).symm
    ·
     have h205 := nt_f h202
     have h206 := of_decide_eq_true h205
     refine wpf_skip ?_
     refine blk_n ?_
     refine thn_n ?_
     refine wpf_region ?_
     refine wpo_move (v := .int .i64 (k : Int)) e110 rfl ?_
     refine wpo_add (c := (k : Int) + 1) rfl rfl (by omega) (by omega) (by omega) rfl ?_
     refine wpo_assign (v := .int .i64 ((k : Int) + 1)) rfl rfl ?_
     refine wpo_nil ?_
     refine thn_n ?_
     exact ⟨cs.length - (k + 1), by omega, (k + 1), rfl, (by omega), (take_eq_succ ha (cAt_get (by omega)) (cAt_get (by omega)) (of_decide_eq_true h205)), rfl, e111, e112, hb201⟩
  ·
   have h207 := of_decide_eq_false h113
   refine wpf_exit ?_
   refine thn_e ?_
   refine thn_e ?_
   refine blk_e ?_
   refine thn_n ?_
   refine wpf_seq_region ?_
   refine wpo_assign (v := .bool true) rfl rfl ?_
   refine wpo_nil ?_
   refine wpf_ret ?_
   refine ⟨.bool true, res1 rfl rfl, ?_, hb108⟩
   exact congrArg Value.bool (decide_eq_true (eq_of_take ha (by omega) (by omega))).symm
theorem sRunLow_c (l : Lab) (w : World) (ms : List MTh) (a : Option Addr) (c : Nat) (ht : TabAt w a ms) (hlen : TabLen ms) (hn : ms.length ≤ 1048576) (cs : List Cl) (b : Option Addr) (e : Nat) (hs : SlAt w b 5 (cs.map Cl.cells)) (hm : cs.length ≤ 1048576) : CallsR Try.prog 46 #[.slice a ms.length c, .slice b cs.length e, .agg #[.int .i64 l.s, .int .i64 l.v]] w (fun v w' => ∃ (B cap : Nat), v = .slice (some ⟨B, 0, none⟩) (runLow (tabT ms) cs l).length cap ∧ w.heap.size ≤ B ∧ Dw.Own w' B 76 5 cap (runLow (tabT ms) cs l).length ((runLow (tabT ms) cs l).flatMap Cl.cells) ∧ w.grownBy w' none) := by
 refine calls_of_wpf (n := 51) Try.func46 rfl Try.ntmps46 rfl ?_
 have hb0 := World.grownBy.refl w none
 refine wpf_seq_region ?_
 refine wpo_box (v := .agg #[.int .i64 l.s, .int .i64 l.v]) (cs := #[.int .i64 l.s, .int .i64 l.v]) rfl rfl rfl ?_
 intro B101 w102 hN103
 have hlB101 := hN_ge hN103 hb0
 have hb104 := low0 hb0 hN103.grw
 refine wpo_assign (v := .slice none 0 0) rfl rfl ?_
 refine wpo_nil ?_
 refine wpf_seq_region ?_
 refine wpo_buildSlice (ps := []) (e := 76) (cs := (([] : List Cl).flatMap Cl.cells).toArray) parts_nil (fun _ => by kernel_rfl) rfl ?_
 intro B105 w106 hN107
 have hlB105 := hN_ge hN107 hb104
 have lt_B101_B105 := hN_gtl hN107 (hN103.blk).lt
 have hb108 := low0 hb104 hN107.grw
 refine wpo_assign (v := .slice (some ⟨B105, 0, none⟩) 0 0) rfl rfl ?_
 refine wpo_nil ?_
 refine wpf_seq ?_
 refine wpf_seq_region_mid (fun f' w' => (f' 0 = .slice a ms.length c ∧ f' 1 = .slice b cs.length e ∧ f' 5 = .pointer (some ⟨B101, 0, none⟩) ∧ f' 6 = .slice none 0 0 ∧ f' 7 = .slice (some ⟨B105, 0, none⟩) 0 0 ∧ f' 23 = .bool (((!tableOk (tabT ms)) || (!callsIn_ (tabT ms) cs)) || (!labelOk l))) ∧ w106.grownBy w' none) ?_ ?_
 ·
  refine wpo_move (v := .slice a ms.length c) rfl rfl ?_
  refine wpo_call (vs := [.slice a ms.length c]) gf_34 (args_cons rfl args_nil) rfl (sTableOk_c  _ ms _ _ (TabAt.low ht hb108) hlen (by omega)) ?_
  rintro _ w122 ⟨rfl, hg123⟩
  have hb124 := low0 hb108 hg123
  refine wpo_not (b' := !tableOk (tabT ms)) rfl rfl rfl ?_
  refine wpo_move (v := .bool (!tableOk (tabT ms))) rfl rfl ?_
  rcases bcases (!tableOk (tabT ms)) with h125 | h125
  ·
   have h126 := nt_t h125
   iterate 4 refine wpo_pass rfl rfl rfl h125 rfl ?_
   refine wpo_pickt (v := .bool true) rfl h125 rfl rfl ?_
   refine wpo_move (v := .bool true) rfl rfl ?_
   iterate 3 refine wpo_pass rfl rfl rfl rfl rfl ?_
   refine wpo_pickt (v := .bool true) rfl rfl rfl rfl ?_
   exact wpo_nil ⟨⟨rfl, rfl, rfl, rfl, rfl, (congrArg Value.bool (by first | (simp only [h125, h126, b0, b1, b2, b3, b4, b5, b6, b7, b8, b9]; done) | simp [h125, h126]))⟩, hg123⟩
  ·
   have h127 := nt_f h125
   refine wpo_run rfl rfl rfl h125 ?_
   refine wpo_move (v := .slice a ms.length c) rfl rfl ?_
   refine wpo_run rfl rfl rfl h125 ?_
   refine wpo_move (v := .slice b cs.length e) rfl rfl ?_
   refine wpo_run rfl rfl rfl h125 ?_
   refine wpo_call (vs := [.slice a ms.length c, .slice b cs.length e]) gf_91 (args_cons rfl (args_cons rfl args_nil)) rfl (l21Calls_c  _ ms _ _ (TabAt.low ht hb124) hlen (by omega) cs _ _ (SlAt.low hs hb124) (by omega)) ?_
   rintro _ w128 ⟨rfl, hg129⟩
   have hb130 := low0 hb124 hg129
   refine wpo_run rfl rfl rfl h125 ?_
   refine wpo_not (b' := !callsIn_ (tabT ms) cs) rfl rfl rfl ?_
   refine wpo_pickf (v := .bool (!callsIn_ (tabT ms) cs)) rfl h125 rfl rfl ?_
   refine wpo_move (v := .bool (!callsIn_ (tabT ms) cs)) rfl rfl ?_
   rcases bcases (!callsIn_ (tabT ms) cs) with h131 | h131
   ·
    have h132 := nt_t h131
    iterate 3 refine wpo_pass rfl rfl rfl h131 rfl ?_
    refine wpo_pickt (v := .bool true) rfl h131 rfl rfl ?_
    exact wpo_nil ⟨⟨rfl, rfl, rfl, rfl, rfl, (congrArg Value.bool (by first | (simp only [h125, h127, h131, h132, b0, b1, b2, b3, b4, b5, b6, b7, b8, b9]; done) | simp [h125, h127, h131, h132]))⟩, (grown_trans hg123 hg129)⟩
   ·
    have h133 := nt_f h131
    have hsc134 : scriptOk (tabT ms) cs = true := by unfold scriptOk; rw [h127, h133]; rfl
    have hrun135 := script_run hsc134
    refine wpo_run rfl rfl rfl h131 ?_
    have k136 := (((hN103.blk.grown0 hN107.grw).grown0 hg123).grown0 hg129)
    refine wpo_loadn (vs := [.int .i64 l.s, .int .i64 l.v]) rt_40 rfl rfl (k136.rangeL 0 2 rfl) rfl ?_
    refine wpo_run rfl rfl rfl h131 ?_
    refine wpo_call (vs := [.agg #[.int .i64 l.s, .int .i64 l.v]]) gf_35 (args_cons rfl args_nil) rfl (sLabelOk_c l _) ?_
    rintro _ w137 ⟨rfl, hg138⟩
    have hb139 := low0 hb130 hg138
    refine wpo_run rfl rfl rfl h131 ?_
    refine wpo_not (b' := !labelOk l) rfl rfl rfl ?_
    refine wpo_pickf (v := .bool (!labelOk l)) rfl h131 rfl rfl ?_
    exact wpo_nil ⟨⟨rfl, rfl, rfl, rfl, rfl, (congrArg Value.bool (by first | (simp only [h125, h127, h131, h133, b0, b1, b2, b3, b4, b5, b6, b7, b8, b9]; done) | simp [h125, h127, h131, h133]))⟩, (grown_trans (grown_trans hg123 hg129) hg138)⟩
 ·
  rintro f140 w141 ⟨⟨e142, e143, e144, e145, e146, e147⟩, hg148⟩
  have hb149 := low0 hb108 hg148
  refine wpf_cond e147 (fun h150 => ?_) (fun h150 => ?_)
  ·
   refine wpf_seq_region ?_
   refine wpo_move (v := .slice (some ⟨B105, 0, none⟩) 0 0) e146 rfl ?_
   refine wpo_assign (v := .slice (some ⟨B105, 0, none⟩) 0 0) rfl rfl ?_
   refine wpo_nil ?_
   refine wpf_ret ?_
   refine thn_r ?_
   have hrl : runLow (tabT ms) cs l = [] := runLow_no (script_s.trans h150)
   refine ⟨.slice (some ⟨B105, 0, none⟩) 0 0, res1 rfl rfl, B105, 0, by rw [hrl]; rfl, hlB105, ?_, hb149⟩
   rw [hrl]
   have k151 := (hN107.blk.grown0 hg148)
   exact (Own.rows wide_cl k151 (by simp))
  ·
   have h152 := or_l h150
   have h153 := or_l h152
   have h154 := nt_f h153
   have h155 := or_r h152
   have h156 := nt_f h155
   have hsc157 : scriptOk (tabT ms) cs = true := by unfold scriptOk; rw [h154, h156]; rfl
   have hrun158 := script_run hsc157
   have h159 := or_r h150
   have h160 := nt_f h159
   refine wpf_skip ?_
   refine thn_n ?_
   refine wpf_seq ?_
   refine wpf_seq_region ?_
   refine wpo_assign (v := .int .i64 0) rfl rfl ?_
   refine wpo_nil ?_
   refine wpf_block ?_
   have k161 := (hN107.blk.grown0 hg148)
   have k162 := ((hN103.blk.grown0 hN107.grw).grown0 hg148)
   refine wpf_loopN (fun mm f' w' => ∃ (k : Nat) (Bq : Nat) (cq : Nat) (ys : List Cl), mm = cs.length - k ∧ k ≤ cs.length ∧ ys = (cs.take k).filter (lowOf (tabT ms) l) ∧ ys.length ≤ k ∧ Dw.Own w' Bq 76 5 cq ys.length (ys.flatMap Cl.cells) ∧ w.heap.size ≤ Bq ∧ B101 ≠ Bq ∧ f' 7 = .slice (some ⟨Bq, 0, none⟩) ys.length cq ∧ f' 8 = .int .i64 (k : Int) ∧ f' 0 = .slice a ms.length c ∧ f' 1 = .slice b cs.length e ∧ f' 5 = .pointer (some ⟨B101, 0, none⟩) ∧ f' 6 = .slice none 0 0 ∧ w.grownBy w' none ∧ Blk w' B101 40 #[.int .i64 l.s, .int .i64 l.v]) (cs.length - 0) ⟨0, B105, 0, ([] : List Cl), rfl, (Nat.zero_le _), rfl, (Nat.le_refl 0), (Own.rows wide_cl k161 (by simp)), hlB105, (by omega), e146, rfl, e142, e143, e144, e145, hb149, k162⟩ ?_
   rintro mm f163 w164 ⟨k, Bq, cq, ys, hm166, hk, hys, hyl, hOwn, hlBq, hne0, e167, e168, e169, e170, e171, e172, hb165, k173⟩
   refine wpf_seq ?_
   refine wpf_seq_region ?_
   refine wpo_move (v := .int .i64 (k : Int)) e168 rfl ?_
   refine wpo_move (v := .slice b cs.length e) e170 rfl ?_
   refine wpo_len (by kernel_rfl) rfl rfl ?_
   refine wpo_lss (q := decide ((k : Int) < (cs.length : Int))) rfl rfl rfl rfl ?_
   refine wpo_nil ?_
   refine wpf_cond rfl (fun h174 => ?_) (fun h174 => ?_)
   ·
    have h175 := of_decide_eq_true h174
    refine wpf_skip ?_
    refine thn_n ?_
    refine wpf_seq ?_
    refine wpf_block ?_
    refine wpf_seq ?_
    obtain ⟨b220, q221, o222, ha223, ho224, hr225⟩ := SlAt.at (SlAt.low hs hb165) (map_get (cAt_get (show k < cs.length by omega)))
    have hcf226 := hrun158 k (show k < cs.length by omega)
    obtain ⟨b229, q230, o231, ha232, ho233, hr234⟩ := SlAt.at (TabAt.low ht hb165).1 (map_get (mAt_get (show (((cAt cs k).run) - 1).toNat < ms.length by omega)))
    have hle235 := TabLen.at hlen (mAt_get (show (((cAt cs k).run) - 1).toNat < ms.length by omega))
    refine wpf_draw (m := 11) (vals := [(31, .slice a ms.length c), (32, .slice b cs.length e), (33, .int .i64 (k : Int)), (34, .pointer (some ⟨b220, o222, none⟩)), (35, .pointer (some ⟨b220, o222 + 1, none⟩)), (36, .int .i64 ((cAt cs k).run)), (37, .int .i64 (((cAt cs k).run) - 1)), (38, .pointer (some ⟨b229, o231, none⟩)), (39, .pointer (some ⟨b229, o231 + 1, none⟩)), (40, .agg #[.int .i64 ((mAt ms ((((cAt cs k).run) - 1).toNat)).t.lab.s), .int .i64 ((mAt ms ((((cAt cs k).run) - 1).toNat)).t.lab.v)]), (41, .agg #[.int .i64 l.s, .int .i64 l.v])]) (fun w' => w164.grownBy w' none) mixed_ (by kernel_rfl) (grown_drew _) ?_ ?_
    ·
     refine yll_cons rfl (fun w239 hi240 => ?_) ?_
     ·
      have hb241 := low0 hb165 hi240
      refine wpo_move (v := .slice a ms.length c) e169 rfl ?_
      exact wpo_nil ⟨rfl, hi240⟩
     refine yll_cons rfl (fun w242 hi243 => ?_) ?_
     ·
      have hb244 := low0 hb165 hi243
      refine wpo_move (v := .slice b cs.length e) e170 rfl ?_
      exact wpo_nil ⟨rfl, hi243⟩
     refine yll_cons rfl (fun w245 hi246 => ?_) ?_
     ·
      have hb247 := low0 hb165 hi246
      refine wpo_move (v := .int .i64 (k : Int)) e168 rfl ?_
      exact wpo_nil ⟨rfl, hi246⟩
     refine yll_cons rfl (fun w248 hi249 => ?_) ?_
     ·
      have hb250 := low0 hb165 hi249
      refine wpo_indexE es_69 rfl rfl ha223 ho224 (by omega) (by omega) rfl ?_
      exact wpo_nil ⟨rfl, hi249⟩
     refine yll_cons rfl (fun w251 hi252 => ?_) ?_
     ·
      have hb253 := low0 hb165 hi252
      refine wpo_fieldAddr (o' := o222 + 1) fo_76_1 rfl rfl rfl ?_
      exact wpo_nil ⟨rfl, hi252⟩
     refine yll_cons rfl (fun w254 hi255 => ?_) ?_
     ·
      have hb256 := low0 hb165 hi255
      refine wpo_load1 (v := .int .i64 ((cAt cs k).run)) ot_3 rfl ((range_low hr225 hi255) 1 _ rfl) rfl ?_
      exact wpo_nil ⟨rfl, hi255⟩
     refine yll_cons rfl (fun w257 hi258 => ?_) ?_
     ·
      have hb259 := low0 hb165 hi258
      refine wpo_sub (c := ((cAt cs k).run) - 1) rfl rfl (by omega) (by omega) (by omega) rfl ?_
      exact wpo_nil ⟨rfl, hi258⟩
     refine yll_cons rfl (fun w260 hi261 => ?_) ?_
     ·
      have hb262 := low0 hb165 hi261
      refine wpo_indexE es_54 rfl rfl ha232 ho233 (by omega) (by omega) rfl ?_
      exact wpo_nil ⟨rfl, hi261⟩
     refine yll_cons rfl (fun w263 hi264 => ?_) ?_
     ·
      have hb265 := low0 hb165 hi264
      refine wpo_fieldAddr (o' := o231 + 1) fo_45_1 rfl rfl rfl ?_
      exact wpo_nil ⟨rfl, hi264⟩
     refine yll_cons rfl (fun w266 hi267 => ?_) ?_
     ·
      have hb268 := low0 hb165 hi267
      refine wpo_loadn (vs := [.int .i64 ((mAt ms ((((cAt cs k).run) - 1).toNat)).t.lab.s), .int .i64 ((mAt ms ((((cAt cs k).run) - 1).toNat)).t.lab.v)]) rt_40 rfl rfl (range_sub (range_low hr234 hi267) 1 2 rfl) rfl ?_
      exact wpo_nil ⟨rfl, hi267⟩
     refine yll_cons rfl (fun w269 hi270 => ?_) ?_
     ·
      have hb271 := low0 hb165 hi270
      have k272 := (k173.grown0 hi270)
      refine wpo_loadn (vs := [.int .i64 l.s, .int .i64 l.v]) rt_40 e171 rfl (k272.rangeL 0 2 rfl) rfl ?_
      exact wpo_nil ⟨rfl, hi270⟩
     exact yll_nil
    ·
     intro w273 hi274
     have hb275 := low0 hb165 hi274
     have hl276 : labelOk ((mAt ms ((((cAt cs k).run) - 1).toNat)).t.lab) = true := tab_lab h154 (show ((((cAt cs k).run) - 1).toNat) < ms.length by omega)
     refine wpo_call (vs := [.agg #[.int .i64 ((mAt ms ((((cAt cs k).run) - 1).toNat)).t.lab.s), .int .i64 ((mAt ms ((((cAt cs k).run) - 1).toNat)).t.lab.v)], .agg #[.int .i64 l.s, .int .i64 l.v]]) gf_86 (args_cons rfl (args_cons rfl args_nil)) rfl (l1Flow_c ((mAt ms ((((cAt cs k).run) - 1).toNat)).t.lab) l hl276 h160 _) ?_
     rintro _ w277 ⟨rfl, hg278⟩
     have hb279 := low0 hb275 hg278
     refine wpo_nil ?_
     refine thn_n ?_
     refine wpf_cond rfl (fun h280 => ?_) (fun h280 => ?_)
     ·
      refine wpf_region ?_
      refine wpo_move (v := .slice (some ⟨Bq, 0, none⟩) ys.length cq) e167 rfl ?_
      refine wpo_move (v := .slice b cs.length e) e170 rfl ?_
      refine wpo_move (v := .int .i64 (k : Int)) e168 rfl ?_
      refine wpo_indexE es_69 rfl rfl ha223 ho224 (by omega) (by omega) rfl ?_
      refine wpo_loadn (vs := [.int .i64 ((cAt cs k).kind), .int .i64 ((cAt cs k).run), .int .i64 ((cAt cs k).a), .int .i64 ((cAt cs k).b), .int .i64 ((cAt cs k).n)]) rt_76 rfl rfl (range_sub (range_low hr225 (grown_trans hi274 hg278)) 0 5 rfl) rfl ?_
      refine wpo_buildSlice (ps := [(0, .agg #[.int .i64 ((cAt cs k).kind), .int .i64 ((cAt cs k).run), .int .i64 ((cAt cs k).a), .int .i64 ((cAt cs k).b), .int .i64 ((cAt cs k).n)])]) (e := 76) (cs := (([(cAt cs k)] : List Cl).flatMap Cl.cells).toArray) (parts_cons rfl parts_nil) (fun _ => by kernel_rfl) rfl ?_
      intro B281 w282 hN283
      have hlB281 := hN_ge hN283 hb279
      have k284 := ((k173.grown0 hi274).grown0 hg278)
      have lt_B101_B281 := hN_gtl hN283 (k284).lt
      have k285 := ((hOwn.grown0 hi274).grown0 hg278)
      have lt_Bq_B281 := hN_gtl hN283 (k285).lt
      have hb286 := low0 hb279 hN283.grw
      have k287 := (k285.grown0 hN283.grw)
      have k288 := (k284.grown0 hN283.grw)
      refine wpo_append (g := Cl.cells) (ys := ys) (zs := ([(cAt cs k)] : List Cl)) mk_69 rfl wide_cl (by omega) onec_cl rfl rfl k287 (rows_sl wide_cl hN283.blk) (by simp only [List.length_cons, List.length_nil]; omega) (by omega) rfl ?_
      intro B289 cap290 w291 hO292 hg293 hor294
      have hlB289 : w.heap.size ≤ B289 := by rcases hor294 with h | h; (rw [h]; exact hlBq); (rw [h]; exact hb286.size)
      have ne_B101_B289 : B101 ≠ B289 := by have h := (k288).lt; omega
      have ne_B281_B289 : B281 ≠ B289 := by have h := (hN283.blk).lt; omega
      have hb295 := low1 hb286 hg293 (by omega)
      refine wpo_assign (v := .slice (some ⟨B289, 0, none⟩) ((ys ++ ([(cAt cs k)] : List Cl)).length) cap290) rfl rfl ?_
      refine wpo_nil ?_
      refine blk_n ?_
      refine thn_n ?_
      refine wpf_region ?_
      refine wpo_move (v := .int .i64 (k : Int)) e168 rfl ?_
      refine wpo_add (c := (k : Int) + 1) rfl rfl (by omega) (by omega) (by omega) rfl ?_
      refine wpo_assign (v := .int .i64 ((k : Int) + 1)) rfl rfl ?_
      refine wpo_nil ?_
      refine thn_n ?_
      have k296 := (k288.grown hg293 (some_ne (by omega)))
      exact ⟨cs.length - (k + 1), by omega, (k + 1), B289, cap290, (ys ++ ([(cAt cs k)] : List Cl)), rfl, (by omega), (filter_t hys (cAt_get (by omega)) ((low_m (l := l) (c := cAt cs k)).symm.trans h280)), (by first | omega | (simp only [List.length_append, List.length_cons, List.length_nil]; omega)), hO292, hlB289, (by omega), rfl, rfl, e169, e170, e171, e172, hb295, k296⟩
     ·
      refine wpf_skip ?_
      refine blk_n ?_
      refine thn_n ?_
      refine wpf_region ?_
      refine wpo_move (v := .int .i64 (k : Int)) e168 rfl ?_
      refine wpo_add (c := (k : Int) + 1) rfl rfl (by omega) (by omega) (by omega) rfl ?_
      refine wpo_assign (v := .int .i64 ((k : Int) + 1)) rfl rfl ?_
      refine wpo_nil ?_
      refine thn_n ?_
      have k297 := ((hOwn.grown0 hi274).grown0 hg278)
      have k298 := ((k173.grown0 hi274).grown0 hg278)
      exact ⟨cs.length - (k + 1), by omega, (k + 1), Bq, cq, ys, rfl, (by omega), (filter_f hys (cAt_get (by omega)) ((low_m (l := l) (c := cAt cs k)).symm.trans h280)), (by first | omega | (simp only [List.length_append, List.length_cons, List.length_nil]; omega)), k297, hlBq, (by omega), e167, rfl, e169, e170, e171, e172, hb279, k298⟩
   ·
    have h299 := of_decide_eq_false h174
    refine wpf_exit ?_
    refine thn_e ?_
    refine thn_e ?_
    refine blk_e ?_
    refine thn_n ?_
    refine wpf_seq_region ?_
    refine wpo_move (v := .slice (some ⟨Bq, 0, none⟩) ys.length cq) e167 rfl ?_
    refine wpo_assign (v := .slice (some ⟨Bq, 0, none⟩) ys.length cq) rfl rfl ?_
    refine wpo_nil ?_
    refine wpf_ret ?_
    have hrl : runLow (tabT ms) cs l = ys := runLow_yes (script_s.trans h150) hys (by omega)
    refine ⟨.slice (some ⟨Bq, 0, none⟩) ys.length cq, res1 rfl rfl, Bq, cq, by rw [hrl], hlBq, ?_, hb165⟩
    rw [hrl]
    exact hOwn
theorem RunLow_c (l : Lab) (w : World) (ms : List MTh) (a : Option Addr) (c : Nat) (ht : TabAt w a ms) (hlen : TabLen ms) (hn : ms.length ≤ 1048576) (cs : List Cl) (b : Option Addr) (e : Nat) (hs : SlAt w b 5 (cs.map Cl.cells)) (hm : cs.length ≤ 1048576) : CallsR Try.prog 47 #[.slice a ms.length c, .slice b cs.length e, .agg #[.int .i64 l.s, .int .i64 l.v]] w (fun v w' => ∃ (q : Option Addr) (cap : Nat), v = .slice q (runLow (tabT ms) cs l).length cap ∧ OwnN w.heap.size w' q 76 5 cap (runLow (tabT ms) cs l).length ((runLow (tabT ms) cs l).flatMap Cl.cells) ∧ w.grownBy w' none) := by
 refine calls_of_wpf (n := 36) Try.func47 rfl Try.ntmps47 rfl ?_
 have hb0 := World.grownBy.refl w none
 refine wpf_seq_region ?_
 refine wpo_box (v := .agg #[.int .i64 l.s, .int .i64 l.v]) (cs := #[.int .i64 l.s, .int .i64 l.v]) rfl rfl rfl ?_
 intro B101 w102 hN103
 have hlB101 := hN_ge hN103 hb0
 have hb104 := low0 hb0 hN103.grw
 refine wpo_assign (v := .slice none 0 0) rfl rfl ?_
 refine wpo_nil ?_
 refine wpf_seq ?_
 refine wpf_seq_region_mid (fun f' w' => (f' 0 = .slice a ms.length c ∧ f' 1 = .slice b cs.length e ∧ f' 5 = .pointer (some ⟨B101, 0, none⟩) ∧ f' 6 = .slice none 0 0 ∧ f' 18 = .bool ((!scriptOk (tabT ms) cs) || (!labelOk l))) ∧ w102.grownBy w' none) ?_ ?_
 ·
  refine wpo_move (v := .slice a ms.length c) rfl rfl ?_
  refine wpo_move (v := .slice b cs.length e) rfl rfl ?_
  refine wpo_call (vs := [.slice a ms.length c, .slice b cs.length e]) gf_93 (args_cons rfl (args_cons rfl args_nil)) rfl (scriptOk_c  _ ms _ _ (TabAt.low ht hb104) hlen (by omega) cs _ _ (SlAt.low hs hb104) (by omega)) ?_
  rintro _ w115 ⟨rfl, hg116⟩
  have hb117 := low0 hb104 hg116
  refine wpo_not (b' := !scriptOk (tabT ms) cs) rfl rfl rfl ?_
  refine wpo_move (v := .bool (!scriptOk (tabT ms) cs)) rfl rfl ?_
  rcases bcases (!scriptOk (tabT ms) cs) with h118 | h118
  ·
   have h119 := nt_t h118
   iterate 3 refine wpo_pass rfl rfl rfl h118 rfl ?_
   refine wpo_pickt (v := .bool true) rfl h118 rfl rfl ?_
   exact wpo_nil ⟨⟨rfl, rfl, rfl, rfl, (congrArg Value.bool (by first | (simp only [h118, h119, b0, b1, b2, b3, b4, b5, b6, b7, b8, b9]; done) | simp [h118, h119]))⟩, hg116⟩
  ·
   have h120 := nt_f h118
   have hrun121 := script_run h120
   have htk122 := (script_parts h120).1
   refine wpo_run rfl rfl rfl h118 ?_
   have k123 := (hN103.blk.grown0 hg116)
   refine wpo_loadn (vs := [.int .i64 l.s, .int .i64 l.v]) rt_40 rfl rfl (k123.rangeL 0 2 rfl) rfl ?_
   refine wpo_run rfl rfl rfl h118 ?_
   refine wpo_call (vs := [.agg #[.int .i64 l.s, .int .i64 l.v]]) gf_70 (args_cons rfl args_nil) rfl (LabelOk_c l _) ?_
   rintro _ w124 ⟨rfl, hg125⟩
   have hb126 := low0 hb117 hg125
   refine wpo_run rfl rfl rfl h118 ?_
   refine wpo_not (b' := !labelOk l) rfl rfl rfl ?_
   refine wpo_pickf (v := .bool (!labelOk l)) rfl h118 rfl rfl ?_
   exact wpo_nil ⟨⟨rfl, rfl, rfl, rfl, (congrArg Value.bool (by first | (simp only [h118, h120, htk122, b0, b1, b2, b3, b4, b5, b6, b7, b8, b9]; done) | simp [h118, h120, htk122]))⟩, (grown_trans hg116 hg125)⟩
 ·
  rintro f127 w128 ⟨⟨e129, e130, e131, e132, e133⟩, hg134⟩
  have hb135 := low0 hb104 hg134
  refine wpf_cond e133 (fun h136 => ?_) (fun h136 => ?_)
  ·
   refine wpf_seq_region ?_
   refine wpo_assign (v := .slice none 0 0) rfl rfl ?_
   refine wpo_nil ?_
   refine wpf_ret ?_
   refine thn_r ?_
   have hrl : runLow (tabT ms) cs l = [] := runLow_no h136
   refine ⟨.slice none 0 0, res1 rfl rfl, none, 0, by rw [hrl]; rfl, by rw [hrl]; exact OwnN.nil, hb135⟩
  ·
   have h137 := or_l h136
   have h138 := nt_f h137
   have hrun139 := script_run h138
   have htk140 := (script_parts h138).1
   have h141 := or_r h136
   have h142 := nt_f h141
   refine wpf_skip ?_
   refine thn_n ?_
   refine wpf_seq_region ?_
   refine wpo_assign (v := .slice none 0 0) rfl rfl ?_
   refine wpo_nil ?_
   refine wpf_seq ?_
   refine wpf_seq_region ?_
   refine wpo_move (v := .slice b cs.length e) e130 rfl ?_
   refine wpo_len (by kernel_rfl) rfl rfl ?_
   refine wpo_move (v := .int .i64 0) rfl rfl ?_
   refine wpo_nil ?_
   refine wpf_block ?_
   have k143 := (hN103.blk.grown0 hg134)
   refine wpf_loopN (fun mm f' w' => ∃ (k : Nat) (aq : Option Addr) (cq : Nat) (ys : List Cl), mm = cs.length - k ∧ k ≤ cs.length ∧ ys = (cs.take k).filter (lowOf (tabT ms) l) ∧ ys.length ≤ k ∧ OwnN w.heap.size w' aq 76 5 cq ys.length (ys.flatMap Cl.cells) ∧ f' 7 = .slice aq ys.length cq ∧ f' 21 = .int .i64 (k : Int) ∧ f' 0 = .slice a ms.length c ∧ f' 5 = .pointer (some ⟨B101, 0, none⟩) ∧ f' 6 = .slice none 0 0 ∧ f' 19 = .slice b cs.length e ∧ f' 20 = .int .i64 (cs.length : Int) ∧ w.grownBy w' none ∧ Blk w' B101 40 #[.int .i64 l.s, .int .i64 l.v]) (cs.length - 0) ⟨0, none, 0, ([] : List Cl), rfl, (Nat.zero_le _), rfl, (Nat.le_refl 0), OwnN.nil, rfl, rfl, e129, e131, e132, rfl, rfl, hb135, k143⟩ ?_
   rintro mm f144 w145 ⟨k, aq, cq, ys, hm147, hk, hys, hyl, hOwn, e148, e149, e150, e151, e152, e153, e154, hb146, k155⟩
   refine wpf_seq_region ?_
   refine wpo_lss (q := decide ((k : Int) < (cs.length : Int))) e149 e154 rfl rfl ?_
   refine wpo_nil ?_
   refine wpf_seq ?_
   refine wpf_cond rfl (fun h156 => ?_) (fun h156 => ?_)
   ·
    have h157 := of_decide_eq_true h156
    refine wpf_skip ?_
    refine thn_n ?_
    refine wpf_seq ?_
    refine wpf_block ?_
    refine wpf_seq_region ?_
    obtain ⟨b160, q161, o162, ha163, ho164, hr165⟩ := SlAt.at (SlAt.low hs hb146) (map_get (cAt_get (show k < cs.length by omega)))
    have hcf166 := hrun139 k (show k < cs.length by omega)
    refine wpo_indexE es_69 e153 e149 ha163 ho164 (by omega) (by omega) rfl ?_
    refine wpo_loadn (vs := [.int .i64 ((cAt cs k).kind), .int .i64 ((cAt cs k).run), .int .i64 ((cAt cs k).a), .int .i64 ((cAt cs k).b), .int .i64 ((cAt cs k).n)]) rt_76 rfl rfl (range_sub hr165 0 5 rfl) rfl ?_
    refine wpo_alloc (cs := #[.int .i64 0, .int .i64 0, .int .i64 0, .int .i64 0, .int .i64 0]) zt_76 rfl rfl ?_
    intro B167 w168 hN169
    have hlB167 := hN_ge hN169 hb146
    have lt_B101_B167 := hN_gtl hN169 (k155).lt
    have hb170 := low0 hb146 hN169.grw
    refine wpo_storen (vs := [.int .i64 ((cAt cs k).kind), .int .i64 ((cAt cs k).run), .int .i64 ((cAt cs k).a), .int .i64 ((cAt cs k).b), .int .i64 ((cAt cs k).n)]) (cs' := #[.int .i64 ((cAt cs k).kind), .int .i64 ((cAt cs k).run), .int .i64 ((cAt cs k).a), .int .i64 ((cAt cs k).b), .int .i64 ((cAt cs k).n)]) rt_76 rfl rfl rfl (by simp [Value.oneCell']) hN169.blk (Nat.le_of_ble_eq_true rfl) rfl ?_
    intro w171 hS172
    have hb173 := low1 hb170 hS172.grw (by omega)
    refine wpo_nil ?_
    refine wpf_seq_region ?_
    refine wpo_move (v := .slice a ms.length c) e150 rfl ?_
    refine wpo_fieldAddr (o' := 1) fo_76_1 rfl rfl rfl ?_
    refine wpo_load1 (v := .int .i64 ((cAt cs k).run)) ot_3 rfl (hS172.blk.cell rfl) rfl ?_
    have k174 := ((k155.grown0 hN169.grw).grown hS172.grw (some_ne (by omega)))
    refine wpo_loadn (vs := [.int .i64 l.s, .int .i64 l.v]) rt_40 e151 rfl (k174.rangeL 0 2 rfl) rfl ?_
    refine wpo_call (vs := [.slice a ms.length c, .int .i64 ((cAt cs k).run), .agg #[.int .i64 l.s, .int .i64 l.v]]) gf_94 (args_cons rfl (args_cons rfl (args_cons rfl args_nil))) rfl (runLow1_c ((cAt cs k).run) l _ ms _ _ (TabAt.low ht hb173) hlen (by omega) (by omega)) ?_
    rintro _ w175 ⟨rfl, hg176⟩
    have hb177 := low0 hb173 hg176
    refine wpo_nil ?_
    refine wpf_cond rfl (fun h178 => ?_) (fun h178 => ?_)
    ·
     refine wpf_region ?_
     refine wpo_move (v := .slice aq ys.length cq) e148 rfl ?_
     have k179 := (hS172.blk.grown0 hg176)
     refine wpo_loadn (vs := [.int .i64 ((cAt cs k).kind), .int .i64 ((cAt cs k).run), .int .i64 ((cAt cs k).a), .int .i64 ((cAt cs k).b), .int .i64 ((cAt cs k).n)]) rt_76 rfl rfl (k179.rangeL 0 5 rfl) rfl ?_
     refine wpo_buildSlice (ps := [(0, .agg #[.int .i64 ((cAt cs k).kind), .int .i64 ((cAt cs k).run), .int .i64 ((cAt cs k).a), .int .i64 ((cAt cs k).b), .int .i64 ((cAt cs k).n)])]) (e := 76) (cs := (([(cAt cs k)] : List Cl).flatMap Cl.cells).toArray) (parts_cons rfl parts_nil) (fun _ => by kernel_rfl) rfl ?_
     intro B180 w181 hN182
     have hlB180 := hN_ge hN182 hb177
     have k183 := (k174.grown0 hg176)
     have lt_B101_B180 := hN_gtl hN182 (k183).lt
     have lt_B167_B180 := hN_gtl hN182 (k179).lt
     have hb184 := low0 hb177 hN182.grw
     have hO185 := (hOwn.grown0 (low0 (low0 (low1 hN169.grw hS172.grw (Nat.le_trans ((World.grownBy.refl _ none)).size (Nat.le_of_eq hN169.eq.symm))) hg176) hN182.grw))
     refine wpo_appendN (g := Cl.cells) (ys := ys) (zs := ([(cAt cs k)] : List Cl)) (lo := w.heap.size) mk_69 rfl wide_cl (by omega) onec_cl rfl rfl hO185 (rows_sl wide_cl hN182.blk) (fun h => by cases h) (by first | omega | exact Nat.le_of_ble_eq_true rfl | (simp only [List.length_nil, List.length_cons, List.length_append, List.length_replicate]; omega)) (by omega) (by first | exact hb184.size | omega) rfl ?_
     have k192 := (k183.grown0 hN182.grw)
     have k193 := (k179.grown0 hN182.grw)
     intro a186 cap187 w188 hO189 hg190 hor191
     have hb194 := lowN hb184 hO185 hg190 (by omega)
     refine wpo_assign (v := .slice a186 ((ys ++ ([(cAt cs k)] : List Cl)).length) cap187) rfl rfl ?_
     refine wpo_nil ?_
     refine blk_n ?_
     refine thn_n ?_
     refine wpf_region ?_
     refine wpo_add (c := (k : Int) + 1) e149 rfl (by omega) (by omega) (by omega) rfl ?_
     refine wpo_move (v := .int .i64 ((k : Int) + 1)) rfl rfl ?_
     refine wpo_nil ?_
     refine thn_n ?_
     have k195 := (Blk.typN k192 hO185 hg190 (by decide))
     exact ⟨cs.length - (k + 1), by omega, (k + 1), a186, cap187, (ys ++ ([(cAt cs k)] : List Cl)), rfl, (by omega), (filter_t hys (cAt_get (by omega)) ((low_i (l := l) htk140 h142 (by omega) (by omega)).symm.trans h178)), (by first | omega | (simp only [List.length_append, List.length_cons, List.length_nil]; omega)), hO189, rfl, rfl, e150, e151, e152, e153, e154, hb194, k195⟩
    ·
     refine wpf_skip ?_
     refine blk_n ?_
     refine thn_n ?_
     refine wpf_region ?_
     refine wpo_add (c := (k : Int) + 1) e149 rfl (by omega) (by omega) (by omega) rfl ?_
     refine wpo_move (v := .int .i64 ((k : Int) + 1)) rfl rfl ?_
     refine wpo_nil ?_
     refine thn_n ?_
     have k196 := (k174.grown0 hg176)
     exact ⟨cs.length - (k + 1), by omega, (k + 1), aq, cq, ys, rfl, (by omega), (filter_f hys (cAt_get (by omega)) ((low_i (l := l) htk140 h142 (by omega) (by omega)).symm.trans h178)), (by first | omega | (simp only [List.length_append, List.length_cons, List.length_nil]; omega)), (hOwn.grown0 (low0 (low1 hN169.grw hS172.grw (Nat.le_trans ((World.grownBy.refl _ none)).size (Nat.le_of_eq hN169.eq.symm))) hg176)), e148, rfl, e150, e151, e152, e153, e154, hb177, k196⟩
   ·
    have h197 := of_decide_eq_false h156
    refine wpf_exit ?_
    refine thn_e ?_
    refine thn_e ?_
    refine blk_e ?_
    refine thn_n ?_
    refine wpf_seq_region ?_
    refine wpo_move (v := .slice aq ys.length cq) e148 rfl ?_
    refine wpo_assign (v := .slice aq ys.length cq) rfl rfl ?_
    refine wpo_nil ?_
    refine wpf_ret ?_
    have hrl : runLow (tabT ms) cs l = ys := runLow_yes h136 hys (by omega)
    refine ⟨.slice aq ys.length cq, res1 rfl rfl, aq, cq, by rw [hrl], ?_, hb146⟩
    rw [hrl]
    exact hOwn
theorem markCallS_c (n : Int) (hn0 : 0 ≤ n ∧ n ≤ 1125899906842624) (S sc : Nat) (xs : List Cl) (w : World) (hS : Dw.Own w S 76 5 sc xs.length (xs.flatMap Cl.cells)) (hl : xs.length ≤ 1048576) : CallsR Try.prog 49 #[.slice (some ⟨S, 0, none⟩) xs.length sc, .int .i64 n] w (fun v w' => v = .int .i64 (n + 5 * (xs.length : Int)) ∧ Dw.Own w' S 76 5 sc ((List.range xs.length).map (fun i : Nat => mkCl (n + 5 * (i : Int)))).length (((List.range xs.length).map (fun i : Nat => mkCl (n + 5 * (i : Int)))).flatMap Cl.cells) ∧ w.grownBy w' (some S)) := by
 refine calls_of_wpf (n := 48) Try.func49 rfl Try.ntmps49 rfl ?_
 have hb0 := World.grownBy.refl w (some S)
 have hSlt := hS.lt
 refine wpf_seq_region ?_
 refine wpo_assign (v := .int .i64 0) rfl rfl ?_
 refine wpo_nil ?_
 refine wpf_seq ?_
 refine wpf_seq_region ?_
 refine wpo_assign (v := .int .i64 0) rfl rfl ?_
 refine wpo_nil ?_
 refine wpf_block ?_
 refine wpf_loopN (fun mm f' w' => ∃ (k : Nat), mm = xs.length - k ∧ k ≤ xs.length ∧ (markC n xs k).length = xs.length ∧ f' 1 = .int .i64 (n + 5 * (k : Int)) ∧ f' 5 = .int .i64 (k : Int) ∧ f' 0 = .slice (some ⟨S, 0, none⟩) xs.length sc ∧ f' 4 = .int .i64 0 ∧ w.grownBy w' (some S) ∧ Dw.Own w' S 76 5 sc (markC n xs k).length ((markC n xs k).flatMap Cl.cells)) (xs.length - 0) ⟨0, rfl, (Nat.zero_le _), (by rw [markC_zero]), (congrArg (Value.int .i64) (by omega)), rfl, rfl, rfl, hb0, (by rw [markC_zero]; exact hS)⟩ ?_
 rintro mm f101 w102 ⟨k, hm104, hk, hkl, e105, e106, e107, e108, hb103, k109⟩
 refine wpf_seq ?_
 refine wpf_seq_region ?_
 refine wpo_move (v := .int .i64 (k : Int)) e106 rfl ?_
 refine wpo_move (v := .slice (some ⟨S, 0, none⟩) xs.length sc) e107 rfl ?_
 refine wpo_len (by kernel_rfl) rfl rfl ?_
 refine wpo_lss (q := decide ((k : Int) < (xs.length : Int))) rfl rfl rfl rfl ?_
 refine wpo_nil ?_
 refine wpf_cond rfl (fun h110 => ?_) (fun h110 => ?_)
 ·
  have h111 := of_decide_eq_true h110
  refine wpf_skip ?_
  refine thn_n ?_
  refine wpf_seq ?_
  refine wpf_block ?_
  refine wpf_seq_region ?_
  refine wpo_move (v := .slice (some ⟨S, 0, none⟩) xs.length sc) e107 rfl ?_
  refine wpo_move (v := .int .i64 (k : Int)) e106 rfl ?_
  refine wpo_move (v := .int .i64 (n + 5 * (k : Int))) e105 rfl ?_
  refine wpo_indexAddr (o' := k * 5) es_69 rfl rfl (by omega) (by omega) (by omega) rfl ?_
  refine wpo_fieldAddr (o' := k * 5) fo_76_0 rfl rfl rfl ?_
  obtain ⟨x115, hx116⟩ := get_lt (l := markC n xs k) (i := k) (by omega)
  refine wpo_store1O (g := Cl.cells) (j := 0) (z := x115) (z' := ⟨n + 5 * (k : Int), x115.run, x115.a, x115.b, x115.n⟩) (v := .int .i64 (n + 5 * (k : Int))) ot_3 rfl rfl rfl wide_cl k109 hx116 (by omega) rfl rfl ?_
  intro w112 hO113 hg114
  have hb117 := grown_trans hb103 hg114
  refine wpo_nil ?_
  refine wpf_seq_region ?_
  refine wpo_move (v := .int .i64 (n + 5 * (k : Int))) e105 rfl ?_
  refine wpo_add (c := n + 5 * (k : Int) + 1) rfl rfl (by omega) (by omega) (by omega) rfl ?_
  refine wpo_assign (v := .int .i64 (n + 5 * (k : Int) + 1)) rfl rfl ?_
  refine wpo_nil ?_
  refine wpf_seq_region ?_
  refine wpo_move (v := .slice (some ⟨S, 0, none⟩) xs.length sc) e107 rfl ?_
  refine wpo_move (v := .int .i64 (k : Int)) e106 rfl ?_
  refine wpo_move (v := .int .i64 (n + 5 * (k : Int) + 1)) rfl rfl ?_
  refine wpo_indexAddr (o' := k * 5) es_69 rfl rfl (by omega) (by omega) (by omega) rfl ?_
  refine wpo_fieldAddr (o' := k * 5 + 1) fo_76_1 rfl rfl rfl ?_
  refine wpo_store1O (g := Cl.cells) (j := 1) (z := ⟨n + 5 * (k : Int), x115.run, x115.a, x115.b, x115.n⟩) (z' := ⟨n + 5 * (k : Int), n + 5 * (k : Int) + 1, x115.a, x115.b, x115.n⟩) (v := .int .i64 (n + 5 * (k : Int) + 1)) ot_3 rfl rfl rfl wide_cl hO113 (get_set hx116) (by omega) rfl rfl ?_
  intro w118 hO119 hg120
  have hb121 := grown_trans hb117 hg120
  refine wpo_nil ?_
  refine wpf_seq_region ?_
  refine wpo_move (v := .int .i64 (n + 5 * (k : Int) + 1)) rfl rfl ?_
  refine wpo_add (c := n + 5 * (k : Int) + 1 + 1) rfl rfl (by omega) (by omega) (by omega) rfl ?_
  refine wpo_assign (v := .int .i64 (n + 5 * (k : Int) + 1 + 1)) rfl rfl ?_
  refine wpo_nil ?_
  refine wpf_seq_region ?_
  refine wpo_move (v := .slice (some ⟨S, 0, none⟩) xs.length sc) e107 rfl ?_
  refine wpo_move (v := .int .i64 (k : Int)) e106 rfl ?_
  refine wpo_move (v := .int .i64 (n + 5 * (k : Int) + 1 + 1)) rfl rfl ?_
  refine wpo_indexAddr (o' := k * 5) es_69 rfl rfl (by omega) (by omega) (by omega) rfl ?_
  refine wpo_fieldAddr (o' := k * 5 + 2) fo_76_2 rfl rfl rfl ?_
  refine wpo_store1O (g := Cl.cells) (j := 2) (z := ⟨n + 5 * (k : Int), n + 5 * (k : Int) + 1, x115.a, x115.b, x115.n⟩) (z' := ⟨n + 5 * (k : Int), n + 5 * (k : Int) + 1, n + 5 * (k : Int) + 1 + 1, x115.b, x115.n⟩) (v := .int .i64 (n + 5 * (k : Int) + 1 + 1)) ot_3 rfl rfl rfl wide_cl (Own.set2 hO119) (get_set hx116) (by omega) rfl rfl ?_
  intro w122 hO123 hg124
  have hb125 := grown_trans hb121 hg124
  refine wpo_nil ?_
  refine wpf_seq_region ?_
  refine wpo_move (v := .int .i64 (n + 5 * (k : Int) + 1 + 1)) rfl rfl ?_
  refine wpo_add (c := n + 5 * (k : Int) + 1 + 1 + 1) rfl rfl (by omega) (by omega) (by omega) rfl ?_
  refine wpo_assign (v := .int .i64 (n + 5 * (k : Int) + 1 + 1 + 1)) rfl rfl ?_
  refine wpo_nil ?_
  refine wpf_seq_region ?_
  refine wpo_move (v := .slice (some ⟨S, 0, none⟩) xs.length sc) e107 rfl ?_
  refine wpo_move (v := .int .i64 (k : Int)) e106 rfl ?_
  refine wpo_move (v := .int .i64 (n + 5 * (k : Int) + 1 + 1 + 1)) rfl rfl ?_
  refine wpo_indexAddr (o' := k * 5) es_69 rfl rfl (by omega) (by omega) (by omega) rfl ?_
  refine wpo_fieldAddr (o' := k * 5 + 3) fo_76_3 rfl rfl rfl ?_
  refine wpo_store1O (g := Cl.cells) (j := 3) (z := ⟨n + 5 * (k : Int), n + 5 * (k : Int) + 1, n + 5 * (k : Int) + 1 + 1, x115.b, x115.n⟩) (z' := ⟨n + 5 * (k : Int), n + 5 * (k : Int) + 1, n + 5 * (k : Int) + 1 + 1, n + 5 * (k : Int) + 1 + 1 + 1, x115.n⟩) (v := .int .i64 (n + 5 * (k : Int) + 1 + 1 + 1)) ot_3 rfl rfl rfl wide_cl (Own.set2 hO123) (get_set hx116) (by omega) rfl rfl ?_
  intro w126 hO127 hg128
  have hb129 := grown_trans hb125 hg128
  refine wpo_nil ?_
  refine wpf_seq_region ?_
  refine wpo_move (v := .int .i64 (n + 5 * (k : Int) + 1 + 1 + 1)) rfl rfl ?_
  refine wpo_add (c := n + 5 * (k : Int) + 1 + 1 + 1 + 1) rfl rfl (by omega) (by omega) (by omega) rfl ?_
  refine wpo_assign (v := .int .i64 (n + 5 * (k : Int) + 1 + 1 + 1 + 1)) rfl rfl ?_
  refine wpo_nil ?_
  refine wpf_seq_region ?_
  refine wpo_move (v := .slice (some ⟨S, 0, none⟩) xs.length sc) e107 rfl ?_
  refine wpo_move (v := .int .i64 (k : Int)) e106 rfl ?_
  refine wpo_move (v := .int .i64 (n + 5 * (k : Int) + 1 + 1 + 1 + 1)) rfl rfl ?_
  refine wpo_indexAddr (o' := k * 5) es_69 rfl rfl (by omega) (by omega) (by omega) rfl ?_
  refine wpo_fieldAddr (o' := k * 5 + 4) fo_76_4 rfl rfl rfl ?_
  refine wpo_store1O (g := Cl.cells) (j := 4) (z := ⟨n + 5 * (k : Int), n + 5 * (k : Int) + 1, n + 5 * (k : Int) + 1 + 1, n + 5 * (k : Int) + 1 + 1 + 1, x115.n⟩) (z' := ⟨n + 5 * (k : Int), n + 5 * (k : Int) + 1, n + 5 * (k : Int) + 1 + 1, n + 5 * (k : Int) + 1 + 1 + 1, n + 5 * (k : Int) + 1 + 1 + 1 + 1⟩) (v := .int .i64 (n + 5 * (k : Int) + 1 + 1 + 1 + 1)) ot_3 rfl rfl rfl wide_cl (Own.set2 hO127) (get_set hx116) (by omega) rfl rfl ?_
  intro w130 hO131 hg132
  have hb133 := grown_trans hb129 hg132
  refine wpo_nil ?_
  refine wpf_region ?_
  refine wpo_move (v := .int .i64 (n + 5 * (k : Int) + 1 + 1 + 1 + 1)) rfl rfl ?_
  refine wpo_add (c := n + 5 * (k : Int) + 1 + 1 + 1 + 1 + 1) rfl rfl (by omega) (by omega) (by omega) rfl ?_
  refine wpo_assign (v := .int .i64 (n + 5 * (k : Int) + 1 + 1 + 1 + 1 + 1)) rfl rfl ?_
  refine wpo_nil ?_
  refine blk_n ?_
  refine thn_n ?_
  refine wpf_region ?_
  refine wpo_move (v := .int .i64 (k : Int)) e106 rfl ?_
  refine wpo_add (c := (k : Int) + 1) rfl rfl (by omega) (by omega) (by omega) rfl ?_
  refine wpo_assign (v := .int .i64 ((k : Int) + 1)) rfl rfl ?_
  refine wpo_nil ?_
  refine thn_n ?_
  exact ⟨xs.length - (k + 1), by omega, (k + 1), rfl, (by omega), (markC_len (by omega)), (congrArg (Value.int .i64) (by omega)), rfl, e107, e108, hb133, (by have kk := (Own.set2 hO131); rw [markC_set (by omega)] at kk; exact kk)⟩
 ·
  have h134 := of_decide_eq_false h110
  refine wpf_exit ?_
  refine thn_e ?_
  refine thn_e ?_
  refine blk_e ?_
  refine thn_n ?_
  refine wpf_seq_region ?_
  refine wpo_move (v := .int .i64 (n + 5 * (k : Int))) e105 rfl ?_
  refine wpo_assign (v := .int .i64 (n + 5 * (k : Int))) rfl rfl ?_
  refine wpo_nil ?_
  refine wpf_ret ?_
  have hke : k = xs.length := by omega
  refine ⟨.int .i64 (n + 5 * (k : Int)), res1 rfl rfl, congrArg (Value.int .i64) (by omega), ?_, hb103⟩
  have kk := k109
  rw [markC_all (by omega), hke] at kk
  exact kk
theorem markCallS_0 (n : Int) (a : Option Addr) (c : Nat) (w : World) : CallsR Try.prog 49 #[.slice a 0 c, .int .i64 n] w (fun v w' => v = .int .i64 n ∧ w.grownBy w' none) := by
 refine calls_of_wpf (n := 48) Try.func49 rfl Try.ntmps49 rfl ?_
 have hb0 := World.grownBy.refl w none
 refine wpf_seq_region ?_
 refine wpo_assign (v := .int .i64 0) rfl rfl ?_
 refine wpo_nil ?_
 refine wpf_seq ?_
 refine wpf_seq_region ?_
 refine wpo_assign (v := .int .i64 0) rfl rfl ?_
 refine wpo_nil ?_
 refine wpf_block ?_
 refine wpf_loopN (fun mm f' w' => mm = 0 ∧ f' 1 = .int .i64 n ∧ f' 5 = .int .i64 0 ∧ f' 0 = .slice a 0 c ∧ f' 4 = .int .i64 0 ∧ w.grownBy w' none) (0) ⟨rfl, rfl, rfl, rfl, rfl, hb0⟩ ?_
 rintro mm f101 w102 ⟨hm104, e105, e106, e107, e108, hb103⟩
 refine wpf_seq ?_
 refine wpf_seq_region ?_
 refine wpo_move (v := .int .i64 0) e106 rfl ?_
 refine wpo_move (v := .slice a 0 c) e107 rfl ?_
 refine wpo_len (by kernel_rfl) rfl rfl ?_
 refine wpo_lss (q := false) rfl rfl (by decide) rfl ?_
 refine wpo_nil ?_
 refine wpf_condf rfl rfl ?_
 refine wpf_exit ?_
 refine thn_e ?_
 refine thn_e ?_
 refine blk_e ?_
 refine thn_n ?_
 refine wpf_seq_region ?_
 refine wpo_move (v := .int .i64 n) e105 rfl ?_
 refine wpo_assign (v := .int .i64 n) rfl rfl ?_
 refine wpo_nil ?_
 refine wpf_ret ?_
 refine ⟨.int .i64 n, res1 rfl rfl, rfl, hb103⟩
theorem heldCallS_0 (n : Int) (a : Option Addr) (c : Nat) (w : World) : CallsR Try.prog 50 #[.slice a 0 c, .int .i64 n] w (fun v w' => v = .int .i64 n ∧ w.grownBy w' none) := by
 refine calls_of_wpf (n := 58) Try.func50 rfl Try.ntmps50 rfl ?_
 have hb0 := World.grownBy.refl w none
 refine wpf_seq_region ?_
 refine wpo_assign (v := .int .i64 0) rfl rfl ?_
 refine wpo_nil ?_
 refine wpf_seq ?_
 refine wpf_seq_region ?_
 refine wpo_assign (v := .int .i64 0) rfl rfl ?_
 refine wpo_nil ?_
 refine wpf_block ?_
 refine wpf_loopN (fun mm f' w' => mm = 0 ∧ f' 1 = .int .i64 n ∧ f' 5 = .int .i64 0 ∧ f' 0 = .slice a 0 c ∧ w.grownBy w' none) (0) ⟨rfl, rfl, rfl, rfl, hb0⟩ ?_
 rintro mm f101 w102 ⟨hm104, e105, e106, e107, hb103⟩
 refine wpf_seq ?_
 refine wpf_seq_region ?_
 refine wpo_move (v := .int .i64 0) e106 rfl ?_
 refine wpo_move (v := .slice a 0 c) e107 rfl ?_
 refine wpo_len (by kernel_rfl) rfl rfl ?_
 refine wpo_lss (q := false) rfl rfl (by decide) rfl ?_
 refine wpo_nil ?_
 refine wpf_condf rfl rfl ?_
 refine wpf_exit ?_
 refine thn_e ?_
 refine thn_e ?_
 refine blk_e ?_
 refine thn_n ?_
 refine wpf_seq_region ?_
 refine wpo_move (v := .int .i64 n) e105 rfl ?_
 refine wpo_assign (v := .int .i64 n) rfl rfl ?_
 refine wpo_nil ?_
 refine wpf_ret ?_
 refine ⟨.int .i64 n, res1 rfl rfl, rfl, hb103⟩
theorem heldCallS_c (n : Int) (hn0 : 0 ≤ n ∧ n ≤ 1125899906842624) (S sc : Nat) (xs : List Cl) (w : World) (hS : Dw.Own w S 76 5 sc xs.length (xs.flatMap Cl.cells)) (hl : xs.length ≤ 1048576) (hall : ∀ k : Nat, k < xs.length → xs[k]? = some (mkCl (n + 5 * (k : Int)))) : CallsR Try.prog 50 #[.slice (some ⟨S, 0, none⟩) xs.length sc, .int .i64 n] w (fun v w' => v = .int .i64 (n + 5 * (xs.length : Int)) ∧ w.grownBy w' none) := by
 refine calls_of_wpf (n := 58) Try.func50 rfl Try.ntmps50 rfl ?_
 have hb0 := World.grownBy.refl w none
 have hSlt := hS.lt
 refine wpf_seq_region ?_
 refine wpo_assign (v := .int .i64 0) rfl rfl ?_
 refine wpo_nil ?_
 refine wpf_seq ?_
 refine wpf_seq_region ?_
 refine wpo_assign (v := .int .i64 0) rfl rfl ?_
 refine wpo_nil ?_
 refine wpf_block ?_
 refine wpf_loopN (fun mm f' w' => ∃ (k : Nat), mm = xs.length - k ∧ k ≤ xs.length ∧ f' 1 = .int .i64 (n + 5 * (k : Int)) ∧ f' 5 = .int .i64 (k : Int) ∧ f' 0 = .slice (some ⟨S, 0, none⟩) xs.length sc ∧ w.grownBy w' none ∧ Dw.Own w' S 76 5 sc xs.length (xs.flatMap Cl.cells)) (xs.length - 0) ⟨0, rfl, (Nat.zero_le _), (congrArg (Value.int .i64) (by omega)), rfl, rfl, hb0, hS⟩ ?_
 rintro mm f101 w102 ⟨k, hm104, hk, e105, e106, e107, hb103, k108⟩
 refine wpf_seq ?_
 refine wpf_seq_region ?_
 refine wpo_move (v := .int .i64 (k : Int)) e106 rfl ?_
 refine wpo_move (v := .slice (some ⟨S, 0, none⟩) xs.length sc) e107 rfl ?_
 refine wpo_len (by kernel_rfl) rfl rfl ?_
 refine wpo_lss (q := decide ((k : Int) < (xs.length : Int))) rfl rfl rfl rfl ?_
 refine wpo_nil ?_
 refine wpf_cond rfl (fun h109 => ?_) (fun h109 => ?_)
 ·
  have h110 := of_decide_eq_true h109
  refine wpf_skip ?_
  refine thn_n ?_
  refine wpf_seq ?_
  refine wpf_block ?_
  refine wpf_seq ?_
  refine wpf_seq_region ?_
  refine wpo_move (v := .slice (some ⟨S, 0, none⟩) xs.length sc) e107 rfl ?_
  refine wpo_move (v := .int .i64 (k : Int)) e106 rfl ?_
  refine wpo_indexAddr (o' := k * 5) es_69 rfl rfl (by omega) (by omega) (by omega) rfl ?_
  refine wpo_fieldAddr (o' := k * 5) fo_76_0 rfl rfl rfl ?_
  refine wpo_load1 (v := .int .i64 (n + 5 * (k : Int))) ot_3 rfl ((Own.range wide_cl k108 (hall k (by omega))) 0 _ rfl) rfl ?_
  refine wpo_move (v := .int .i64 (n + 5 * (k : Int))) e105 rfl ?_
  refine wpo_neq (q := false) rfl rfl (by simp) rfl ?_
  refine wpo_nil ?_
  refine wpf_condf rfl rfl ?_
  refine wpf_skip ?_
  refine thn_n ?_
  refine wpf_seq_region ?_
  refine wpo_move (v := .int .i64 (n + 5 * (k : Int))) e105 rfl ?_
  refine wpo_add (c := n + 5 * (k : Int) + 1) rfl rfl (by omega) (by omega) (by omega) rfl ?_
  refine wpo_assign (v := .int .i64 (n + 5 * (k : Int) + 1)) rfl rfl ?_
  refine wpo_nil ?_
  refine wpf_seq ?_
  refine wpf_seq_region ?_
  refine wpo_move (v := .slice (some ⟨S, 0, none⟩) xs.length sc) e107 rfl ?_
  refine wpo_move (v := .int .i64 (k : Int)) e106 rfl ?_
  refine wpo_indexAddr (o' := k * 5) es_69 rfl rfl (by omega) (by omega) (by omega) rfl ?_
  refine wpo_fieldAddr (o' := k * 5 + 1) fo_76_1 rfl rfl rfl ?_
  refine wpo_load1 (v := .int .i64 (n + 5 * (k : Int) + 1)) ot_3 rfl ((Own.range wide_cl k108 (hall k (by omega))) 1 _ rfl) rfl ?_
  refine wpo_move (v := .int .i64 (n + 5 * (k : Int) + 1)) rfl rfl ?_
  refine wpo_neq (q := false) rfl rfl (by simp) rfl ?_
  refine wpo_nil ?_
  refine wpf_condf rfl rfl ?_
  refine wpf_skip ?_
  refine thn_n ?_
  refine wpf_seq_region ?_
  refine wpo_move (v := .int .i64 (n + 5 * (k : Int) + 1)) rfl rfl ?_
  refine wpo_add (c := n + 5 * (k : Int) + 1 + 1) rfl rfl (by omega) (by omega) (by omega) rfl ?_
  refine wpo_assign (v := .int .i64 (n + 5 * (k : Int) + 1 + 1)) rfl rfl ?_
  refine wpo_nil ?_
  refine wpf_seq ?_
  refine wpf_seq_region ?_
  refine wpo_move (v := .slice (some ⟨S, 0, none⟩) xs.length sc) e107 rfl ?_
  refine wpo_move (v := .int .i64 (k : Int)) e106 rfl ?_
  refine wpo_indexAddr (o' := k * 5) es_69 rfl rfl (by omega) (by omega) (by omega) rfl ?_
  refine wpo_fieldAddr (o' := k * 5 + 2) fo_76_2 rfl rfl rfl ?_
  refine wpo_load1 (v := .int .i64 (n + 5 * (k : Int) + 1 + 1)) ot_3 rfl ((Own.range wide_cl k108 (hall k (by omega))) 2 _ rfl) rfl ?_
  refine wpo_move (v := .int .i64 (n + 5 * (k : Int) + 1 + 1)) rfl rfl ?_
  refine wpo_neq (q := false) rfl rfl (by simp) rfl ?_
  refine wpo_nil ?_
  refine wpf_condf rfl rfl ?_
  refine wpf_skip ?_
  refine thn_n ?_
  refine wpf_seq_region ?_
  refine wpo_move (v := .int .i64 (n + 5 * (k : Int) + 1 + 1)) rfl rfl ?_
  refine wpo_add (c := n + 5 * (k : Int) + 1 + 1 + 1) rfl rfl (by omega) (by omega) (by omega) rfl ?_
  refine wpo_assign (v := .int .i64 (n + 5 * (k : Int) + 1 + 1 + 1)) rfl rfl ?_
  refine wpo_nil ?_
  refine wpf_seq ?_
  refine wpf_seq_region ?_
  refine wpo_move (v := .slice (some ⟨S, 0, none⟩) xs.length sc) e107 rfl ?_
  refine wpo_move (v := .int .i64 (k : Int)) e106 rfl ?_
  refine wpo_indexAddr (o' := k * 5) es_69 rfl rfl (by omega) (by omega) (by omega) rfl ?_
  refine wpo_fieldAddr (o' := k * 5 + 3) fo_76_3 rfl rfl rfl ?_
  refine wpo_load1 (v := .int .i64 (n + 5 * (k : Int) + 1 + 1 + 1)) ot_3 rfl ((Own.range wide_cl k108 (hall k (by omega))) 3 _ rfl) rfl ?_
  refine wpo_move (v := .int .i64 (n + 5 * (k : Int) + 1 + 1 + 1)) rfl rfl ?_
  refine wpo_neq (q := false) rfl rfl (by simp) rfl ?_
  refine wpo_nil ?_
  refine wpf_condf rfl rfl ?_
  refine wpf_skip ?_
  refine thn_n ?_
  refine wpf_seq_region ?_
  refine wpo_move (v := .int .i64 (n + 5 * (k : Int) + 1 + 1 + 1)) rfl rfl ?_
  refine wpo_add (c := n + 5 * (k : Int) + 1 + 1 + 1 + 1) rfl rfl (by omega) (by omega) (by omega) rfl ?_
  refine wpo_assign (v := .int .i64 (n + 5 * (k : Int) + 1 + 1 + 1 + 1)) rfl rfl ?_
  refine wpo_nil ?_
  refine wpf_seq ?_
  refine wpf_seq_region ?_
  refine wpo_move (v := .slice (some ⟨S, 0, none⟩) xs.length sc) e107 rfl ?_
  refine wpo_move (v := .int .i64 (k : Int)) e106 rfl ?_
  refine wpo_indexAddr (o' := k * 5) es_69 rfl rfl (by omega) (by omega) (by omega) rfl ?_
  refine wpo_fieldAddr (o' := k * 5 + 4) fo_76_4 rfl rfl rfl ?_
  refine wpo_load1 (v := .int .i64 (n + 5 * (k : Int) + 1 + 1 + 1 + 1)) ot_3 rfl ((Own.range wide_cl k108 (hall k (by omega))) 4 _ rfl) rfl ?_
  refine wpo_move (v := .int .i64 (n + 5 * (k : Int) + 1 + 1 + 1 + 1)) rfl rfl ?_
  refine wpo_neq (q := false) rfl rfl (by simp) rfl ?_
  refine wpo_nil ?_
  refine wpf_condf rfl rfl ?_
  refine wpf_skip ?_
  refine thn_n ?_
  refine wpf_region ?_
  refine wpo_move (v := .int .i64 (n + 5 * (k : Int) + 1 + 1 + 1 + 1)) rfl rfl ?_
  refine wpo_add (c := n + 5 * (k : Int) + 1 + 1 + 1 + 1 + 1) rfl rfl (by omega) (by omega) (by omega) rfl ?_
  refine wpo_assign (v := .int .i64 (n + 5 * (k : Int) + 1 + 1 + 1 + 1 + 1)) rfl rfl ?_
  refine wpo_nil ?_
  refine blk_n ?_
  refine thn_n ?_
  refine wpf_region ?_
  refine wpo_move (v := .int .i64 (k : Int)) e106 rfl ?_
  refine wpo_add (c := (k : Int) + 1) rfl rfl (by omega) (by omega) (by omega) rfl ?_
  refine wpo_assign (v := .int .i64 ((k : Int) + 1)) rfl rfl ?_
  refine wpo_nil ?_
  refine thn_n ?_
  exact ⟨xs.length - (k + 1), by omega, (k + 1), rfl, (by omega), (congrArg (Value.int .i64) (by omega)), rfl, e107, hb103, k108⟩
 ·
  have h111 := of_decide_eq_false h109
  refine wpf_exit ?_
  refine thn_e ?_
  refine thn_e ?_
  refine blk_e ?_
  refine thn_n ?_
  refine wpf_seq_region ?_
  refine wpo_move (v := .int .i64 (n + 5 * (k : Int))) e105 rfl ?_
  refine wpo_assign (v := .int .i64 (n + 5 * (k : Int))) rfl rfl ?_
  refine wpo_nil ?_
  refine wpf_ret ?_
  refine ⟨.int .i64 (n + 5 * (k : Int)), res1 rfl rfl, congrArg (Value.int .i64) (by omega), hb103⟩
theorem markCallS_n (n : Int) (hn0 : 0 ≤ n ∧ n ≤ 1125899906842624) (lo : Nat) (a : Option Addr) (sc : Nat) (xs : List Cl) (w : World) (hS : OwnN lo w a 76 5 sc xs.length (xs.flatMap Cl.cells)) (hl : xs.length ≤ 1048576) :
 CallsR Try.prog 49 #[.slice a xs.length sc, .int .i64 n] w (fun v w' => v = .int .i64 (n + 5 * (xs.length : Int)) ∧ OwnN lo w' a 76 5 sc ((List.range xs.length).map (fun i : Nat => mkCl (n + 5 * (i : Int)))).length (((List.range xs.length).map (fun i : Nat => mkCl (n + 5 * (i : Int)))).flatMap Cl.cells) ∧ w.grownBy w' (a.map (·.block))) := by
  rcases hS.form with ⟨rfl, h2, rfl, h4⟩ | ⟨B, rfl, h2, _, h3⟩
  · have : xs = [] := List.length_eq_zero_iff.1 h2
    subst this
    refine CallsR.mono (markCallS_0 n none 0 w) ?_
    rintro _ w' ⟨rfl, hg⟩
    exact ⟨congrArg (Value.int .i64) (by simp), OwnN.nil, hg⟩
  · refine CallsR.mono (markCallS_c n hn0 B sc xs w h3 hl) ?_
    rintro _ w' ⟨rfl, hO, hg⟩
    exact ⟨rfl, OwnN.of hO h2, hg⟩
theorem heldCallS_n (n : Int) (hn0 : 0 ≤ n ∧ n ≤ 1125899906842624) (lo : Nat) (a : Option Addr) (sc : Nat) (xs : List Cl) (w : World) (hS : OwnN lo w a 76 5 sc xs.length (xs.flatMap Cl.cells)) (hl : xs.length ≤ 1048576) (hall : ∀ k : Nat, k < xs.length → xs[k]? = some (mkCl (n + 5 * (k : Int)))) :
 CallsR Try.prog 50 #[.slice a xs.length sc, .int .i64 n] w (fun v w' => v = .int .i64 (n + 5 * (xs.length : Int)) ∧ w.grownBy w' none) := by
  rcases hS.form with ⟨rfl, h2, rfl, h4⟩ | ⟨B, rfl, h2, _, h3⟩
  · have : xs = [] := List.length_eq_zero_iff.1 h2
    subst this
    refine CallsR.mono (heldCallS_0 n none 0 w) ?_
    rintro _ w' ⟨rfl, hg⟩
    exact ⟨congrArg (Value.int .i64) (by simp), hg⟩
  · exact heldCallS_c n hn0 B sc xs w h3 hl hall
theorem toThing_d (w : World) (q : MTh) (hq : ThAt w q) (hn : q.t.slots.length ≤ 1048576 ∧ q.t.queue.length ≤ 1048576) : CallsR Try.prog 90 #[.agg #[.int .i64 q.t.kind, .int .i64 q.t.lab.s, .int .i64 q.t.lab.v, .int .i64 q.t.ve, .int .i64 q.t.num, .slice q.sa q.t.slots.length q.sc, .slice q.qa q.t.queue.length q.qc, .int .i64 q.t.to]] w (fun v w' => ∃ m : MTh, v = .agg #[.int .i64 m.t.kind, .int .i64 m.t.lab.s, .int .i64 m.t.lab.v, .int .i64 m.t.ve, .int .i64 m.t.num, .slice m.sa m.t.slots.length m.sc, .slice m.qa m.t.queue.length m.qc, .int .i64 m.t.to] ∧ m.t = q.t ∧ (∀ b, b < w.heap.size → ThX (some b) w' m) ∧ RowS 29 3 w.heap.size w' m ∧ w.grownBy w' none) := by
 refine calls_of_wpf (n := 29) Try.func90 rfl Try.ntmps90 rfl ?_
 have hb0 := World.grownBy.refl w none
 refine wpf_seq_region ?_
 refine wpo_box (v := .agg #[.int .i64 q.t.kind, .int .i64 q.t.lab.s, .int .i64 q.t.lab.v, .int .i64 q.t.ve, .int .i64 q.t.num, .slice q.sa q.t.slots.length q.sc, .slice q.qa q.t.queue.length q.qc, .int .i64 q.t.to]) (cs := #[.int .i64 q.t.kind, .int .i64 q.t.lab.s, .int .i64 q.t.lab.v, .int .i64 q.t.ve, .int .i64 q.t.num, .slice q.sa q.t.slots.length q.sc, .slice q.qa q.t.queue.length q.qc, .int .i64 q.t.to]) rfl rfl rfl ?_
 intro B101 w102 hN103
 have hlB101 := hN_ge hN103 hb0
 have hb104 := low0 hb0 hN103.grw
 refine wpo_alloc (cs := #[.int .i64 0, .int .i64 0, .int .i64 0, .int .i64 0, .int .i64 0, .slice none 0 0, .slice none 0 0, .int .i64 0]) zt_45 rfl rfl ?_
 intro B105 w106 hN107
 have hlB105 := hN_ge hN107 hb104
 have lt_B101_B105 := hN_gtl hN107 (hN103.blk).lt
 have hb108 := low0 hb104 hN107.grw
 refine wpo_nil ?_
 refine wpf_seq_region ?_
 refine wpo_alloc (cs := #[.int .i64 0, .int .i64 0, .int .i64 0, .int .i64 0, .int .i64 0, .slice none 0 0, .slice none 0 0, .int .i64 0]) zt_45 rfl rfl ?_
 intro B109 w110 hN111
 have hlB109 := hN_ge hN111 hb108
 have k112 := (hN103.blk.grown0 hN107.grw)
 have lt_B101_B109 := hN_gtl hN111 (k112).lt
 have lt_B105_B109 := hN_gtl hN111 (hN107.blk).lt
 have hb113 := low0 hb108 hN111.grw
 refine wpo_nil ?_
 refine wpf_seq_region ?_
 refine wpo_fieldAddr (o' := 0) fo_111_0 rfl rfl rfl ?_
 have k114 := (k112.grown0 hN111.grw)
 refine wpo_load1 (v := .int .i64 q.t.kind) ot_3 rfl (k114.cell rfl) rfl ?_
 refine wpo_fieldAddr (o' := 0) fo_45_0 rfl rfl rfl ?_
 refine wpo_store1 (v := .int .i64 q.t.kind) (cs' := #[.int .i64 q.t.kind, .int .i64 0, .int .i64 0, .int .i64 0, .int .i64 0, .slice none 0 0, .slice none 0 0, .int .i64 0]) ot_3 rfl rfl rfl hN111.blk (Nat.le_of_ble_eq_true rfl) rfl ?_
 intro w115 hS116
 have hb117 := low1 hb113 hS116.grw (by omega)
 refine wpo_nil ?_
 refine wpf_seq_region ?_
 refine wpo_fieldAddr (o' := 1) fo_111_1 rfl rfl rfl ?_
 have k118 := (k114.grown hS116.grw (some_ne (by omega)))
 refine wpo_loadn (vs := [.int .i64 q.t.lab.s, .int .i64 q.t.lab.v]) rt_50 rfl rfl (k118.rangeL 1 2 rfl) rfl ?_
 refine wpo_call (vs := [.agg #[.int .i64 q.t.lab.s, .int .i64 q.t.lab.v]]) gf_27 (args_cons rfl args_nil) rfl (toLabel_c q.t.lab _) ?_
 rintro _ w119 ⟨rfl, hg120⟩
 have hb121 := low0 hb117 hg120
 refine wpo_fieldAddr (o' := 1) fo_45_1 rfl rfl rfl ?_
 have k122 := (hS116.blk.grown0 hg120)
 refine wpo_storen (vs := [.int .i64 q.t.lab.s, .int .i64 q.t.lab.v]) (cs' := #[.int .i64 q.t.kind, .int .i64 q.t.lab.s, .int .i64 q.t.lab.v, .int .i64 0, .int .i64 0, .slice none 0 0, .slice none 0 0, .int .i64 0]) rt_40 rfl rfl rfl (by simp [Value.oneCell']) k122 (Nat.le_of_ble_eq_true rfl) rfl ?_
 intro w123 hS124
 have hb125 := low1 hb121 hS124.grw (by omega)
 refine wpo_nil ?_
 refine wpf_seq_region ?_
 refine wpo_fieldAddr (o' := 3) fo_111_2 rfl rfl rfl ?_
 have k126 := ((k118.grown0 hg120).grown hS124.grw (some_ne (by omega)))
 refine wpo_load1 (v := .int .i64 q.t.ve) ot_3 rfl (k126.cell rfl) rfl ?_
 refine wpo_fieldAddr (o' := 3) fo_45_2 rfl rfl rfl ?_
 refine wpo_store1 (v := .int .i64 q.t.ve) (cs' := #[.int .i64 q.t.kind, .int .i64 q.t.lab.s, .int .i64 q.t.lab.v, .int .i64 q.t.ve, .int .i64 0, .slice none 0 0, .slice none 0 0, .int .i64 0]) ot_3 rfl rfl rfl hS124.blk (Nat.le_of_ble_eq_true rfl) rfl ?_
 intro w127 hS128
 have hb129 := low1 hb125 hS128.grw (by omega)
 refine wpo_nil ?_
 refine wpf_seq_region ?_
 refine wpo_fieldAddr (o' := 4) fo_111_3 rfl rfl rfl ?_
 have k130 := (k126.grown hS128.grw (some_ne (by omega)))
 refine wpo_load1 (v := .int .i64 q.t.num) ot_3 rfl (k130.cell rfl) rfl ?_
 refine wpo_fieldAddr (o' := 4) fo_45_3 rfl rfl rfl ?_
 refine wpo_store1 (v := .int .i64 q.t.num) (cs' := #[.int .i64 q.t.kind, .int .i64 q.t.lab.s, .int .i64 q.t.lab.v, .int .i64 q.t.ve, .int .i64 q.t.num, .slice none 0 0, .slice none 0 0, .int .i64 0]) ot_3 rfl rfl rfl hS128.blk (Nat.le_of_ble_eq_true rfl) rfl ?_
 intro w131 hS132
 have hb133 := low1 hb129 hS132.grw (by omega)
 refine wpo_nil ?_
 refine wpf_seq_region ?_
 refine wpo_fieldAddr (o' := 5) fo_111_4 rfl rfl rfl ?_
 have k134 := (k130.grown hS132.grw (some_ne (by omega)))
 refine wpo_load1 (v := .slice q.sa q.t.slots.length q.sc) ot_22 rfl (k134.cell rfl) rfl ?_
 have k135 := ((((((hN107.blk.grown0 hN111.grw).grown hS116.grw (some_ne (by omega))).grown0 hg120).grown hS124.grw (some_ne (by omega))).grown hS128.grw (some_ne (by omega))).grown hS132.grw (some_ne (by omega)))
 refine wpo_call (vs := [.slice q.sa q.t.slots.length q.sc]) gf_15 (args_cons rfl args_nil) rfl (toRightS_c _ q.t.slots _ _ (ThAt.low hq hb133).1 (by omega)) ?_
 rintro _ w140 ⟨B136, rfl, hge137, k138, hg139⟩
 have hb141 := low0 hb133 hg139
 have hlB136 := Nat.le_trans hb133.size hge137
 have lt_B101_B136 := Nat.lt_of_lt_of_le (k134).lt hge137
 have lt_B105_B136 := Nat.lt_of_lt_of_le (k135).lt hge137
 have lt_B109_B136 := Nat.lt_of_lt_of_le (hS132.blk).lt hge137
 refine wpo_fieldAddr (o' := 5) fo_45_4 rfl rfl rfl ?_
 have k142 := (hS132.blk.grown0 hg139)
 refine wpo_store1 (v := .slice (some ⟨B136, 0, none⟩) q.t.slots.length q.t.slots.length) (cs' := #[.int .i64 q.t.kind, .int .i64 q.t.lab.s, .int .i64 q.t.lab.v, .int .i64 q.t.ve, .int .i64 q.t.num, .slice (some ⟨B136, 0, none⟩) q.t.slots.length q.t.slots.length, .slice none 0 0, .int .i64 0]) ot_27 rfl rfl rfl k142 (Nat.le_of_ble_eq_true rfl) rfl ?_
 intro w143 hS144
 have hb145 := low1 hb141 hS144.grw (by omega)
 refine wpo_nil ?_
 refine wpf_seq_region ?_
 refine wpo_fieldAddr (o' := 6) fo_111_5 rfl rfl rfl ?_
 have k146 := ((k134.grown0 hg139).grown hS144.grw (some_ne (by omega)))
 refine wpo_load1 (v := .slice q.qa q.t.queue.length q.qc) ot_43 rfl (k146.cell rfl) rfl ?_
 have k147 := ((k135.grown0 hg139).grown hS144.grw (some_ne (by omega)))
 have k148 := (k138.grown hS144.grw (some_ne (by omega)))
 refine wpo_call (vs := [.slice q.qa q.t.queue.length q.qc]) gf_107 (args_cons rfl args_nil) rfl (toIntS_c _ q.t.queue _ _ (ThAt.low hq hb145).2.1 (by omega)) ?_
 rintro _ w153 ⟨B149, rfl, hge150, k151, hg152⟩
 have hb154 := low0 hb145 hg152
 have hlB149 := Nat.le_trans hb145.size hge150
 have lt_B101_B149 := Nat.lt_of_lt_of_le (k146).lt hge150
 have lt_B105_B149 := Nat.lt_of_lt_of_le (k147).lt hge150
 have lt_B109_B149 := Nat.lt_of_lt_of_le (hS144.blk).lt hge150
 have lt_B136_B149 := Nat.lt_of_lt_of_le (k148).lt hge150
 refine wpo_fieldAddr (o' := 6) fo_45_5 rfl rfl rfl ?_
 have k155 := (hS144.blk.grown0 hg152)
 refine wpo_store1 (v := .slice (some ⟨B149, 0, none⟩) q.t.queue.length q.t.queue.length) (cs' := #[.int .i64 q.t.kind, .int .i64 q.t.lab.s, .int .i64 q.t.lab.v, .int .i64 q.t.ve, .int .i64 q.t.num, .slice (some ⟨B136, 0, none⟩) q.t.slots.length q.t.slots.length, .slice (some ⟨B149, 0, none⟩) q.t.queue.length q.t.queue.length, .int .i64 0]) ot_43 rfl rfl rfl k155 (Nat.le_of_ble_eq_true rfl) rfl ?_
 intro w156 hS157
 have hb158 := low1 hb154 hS157.grw (by omega)
 refine wpo_nil ?_
 refine wpf_seq_region ?_
 refine wpo_fieldAddr (o' := 7) fo_111_6 rfl rfl rfl ?_
 have k159 := ((k146.grown0 hg152).grown hS157.grw (some_ne (by omega)))
 refine wpo_load1 (v := .int .i64 q.t.to) ot_3 rfl (k159.cell rfl) rfl ?_
 refine wpo_fieldAddr (o' := 7) fo_45_6 rfl rfl rfl ?_
 refine wpo_store1 (v := .int .i64 q.t.to) (cs' := #[.int .i64 q.t.kind, .int .i64 q.t.lab.s, .int .i64 q.t.lab.v, .int .i64 q.t.ve, .int .i64 q.t.num, .slice (some ⟨B136, 0, none⟩) q.t.slots.length q.t.slots.length, .slice (some ⟨B149, 0, none⟩) q.t.queue.length q.t.queue.length, .int .i64 q.t.to]) ot_3 rfl rfl rfl hS157.blk (Nat.le_of_ble_eq_true rfl) rfl ?_
 intro w160 hS161
 have hb162 := low1 hb158 hS161.grw (by omega)
 refine wpo_nil ?_
 refine wpf_seq_region ?_
 refine wpo_loadn (vs := [.int .i64 q.t.kind, .int .i64 q.t.lab.s, .int .i64 q.t.lab.v, .int .i64 q.t.ve, .int .i64 q.t.num, .slice (some ⟨B136, 0, none⟩) q.t.slots.length q.t.slots.length, .slice (some ⟨B149, 0, none⟩) q.t.queue.length q.t.queue.length, .int .i64 q.t.to]) rt_45 rfl rfl (hS161.blk.rangeL 0 8 rfl) rfl ?_
 have k163 := (((k147.grown0 hg152).grown hS157.grw (some_ne (by omega))).grown hS161.grw (some_ne (by omega)))
 refine wpo_storen (vs := [.int .i64 q.t.kind, .int .i64 q.t.lab.s, .int .i64 q.t.lab.v, .int .i64 q.t.ve, .int .i64 q.t.num, .slice (some ⟨B136, 0, none⟩) q.t.slots.length q.t.slots.length, .slice (some ⟨B149, 0, none⟩) q.t.queue.length q.t.queue.length, .int .i64 q.t.to]) (cs' := #[.int .i64 q.t.kind, .int .i64 q.t.lab.s, .int .i64 q.t.lab.v, .int .i64 q.t.ve, .int .i64 q.t.num, .slice (some ⟨B136, 0, none⟩) q.t.slots.length q.t.slots.length, .slice (some ⟨B149, 0, none⟩) q.t.queue.length q.t.queue.length, .int .i64 q.t.to]) rt_45 rfl rfl rfl (by simp [Value.oneCell']) k163 (Nat.le_of_ble_eq_true rfl) rfl ?_
 intro w164 hS165
 have hb166 := low1 hb162 hS165.grw (by omega)
 refine wpo_nil ?_
 refine wpf_ret ?_
 have k167 := ((((k148.grown0 hg152).grown hS157.grw (some_ne (by omega))).grown hS161.grw (some_ne (by omega))).grown hS165.grw (some_ne (by omega)))
 have k168 := (((k151.grown hS157.grw (some_ne (by omega))).grown hS161.grw (some_ne (by omega))).grown hS165.grw (some_ne (by omega)))
 refine ⟨.agg #[.int .i64 q.t.kind, .int .i64 q.t.lab.s, .int .i64 q.t.lab.v, .int .i64 q.t.ve, .int .i64 q.t.num, .slice (some ⟨B136, 0, none⟩) q.t.slots.length q.t.slots.length, .slice (some ⟨B149, 0, none⟩) q.t.queue.length q.t.queue.length, .int .i64 q.t.to], resC rfl (resCell_mk (vs := [.int .i64 q.t.kind, .int .i64 q.t.lab.s, .int .i64 q.t.lab.v, .int .i64 q.t.ve, .int .i64 q.t.num, .slice (some ⟨B136, 0, none⟩) q.t.slots.length q.t.slots.length, .slice (some ⟨B149, 0, none⟩) q.t.queue.length q.t.queue.length, .int .i64 q.t.to]) rt_45 rfl rfl (hS165.blk.rangeL 0 8 rfl)), ⟨q.t, some ⟨B136, 0, none⟩, q.t.slots.length, some ⟨B149, 0, none⟩, q.t.queue.length⟩, rfl, rfl, fun b hb => ⟨SlX.rows wide_rt k167 (some_ne (by omega)), SlX.rows wide_int k168 (some_ne (by omega)), (fun h => by cases h), (fun h => by cases h)⟩, ⟨⟨B136, _, rfl, hlB136, rfl, rfl, k167⟩, ⟨B149, _, rfl, hlB149, rfl, rfl, k168⟩, hn.1, hn.2⟩, hb166⟩
theorem toThingS_d (w : World) (ms : List MTh) (a : Option Addr) (c : Nat) (ht : TabAt w a ms) (hlen : TabLen ms) (hn : ms.length ≤ 1048576) : CallsR Try.prog 38 #[.slice a ms.length c] w (fun v w' => ∃ (B : Nat) (ys : List MTh), v = .slice (some ⟨B, 0, none⟩) ys.length ys.length ∧ tabT ys = tabT ms ∧ w.heap.size ≤ B ∧ Blk w' B 45 (ys.flatMap MTh.cells).toArray ∧ (∀ m ∈ ys, ThX (some B) w' m) ∧ RowsS 29 3 w.heap.size w' ys ∧ w.grownBy w' none) := by
 refine calls_of_wpf (n := 23) Try.func38 rfl Try.ntmps38 rfl ?_
 have hb0 := World.grownBy.refl w none
 refine wpf_seq_region ?_
 refine wpo_assign (v := .slice none 0 0) rfl rfl ?_
 refine wpo_nil ?_
 refine wpf_seq_region ?_
 refine wpo_move (v := .slice a ms.length c) rfl rfl ?_
 refine wpo_len (by kernel_rfl) rfl rfl ?_
 refine wpo_make (g := MTh.cells) (z := MTh.zero) (c := ms.length) mk_54 rfl wide_mth (by omega) rfl rfl (by omega) (by omega) rfl ?_
 intro B101 w102 hN103
 have hlB101 := hN_ge hN103 hb0
 have hb104 := low0 hb0 hN103.grw
 refine wpo_assign (v := .slice (some ⟨B101, 0, none⟩) ms.length ms.length) rfl rfl ?_
 refine wpo_nil ?_
 refine wpf_seq ?_
 refine wpf_seq_region ?_
 refine wpo_assign (v := .int .i64 0) rfl rfl ?_
 refine wpo_nil ?_
 refine wpf_block ?_
 refine wpf_loopN (fun mm f' w' => ∃ (k : Nat) (ys : List MTh), mm = ms.length - k ∧ k ≤ ms.length ∧ ys.length = k ∧ tabT ys = (tabT ms).take k ∧ (∀ x ∈ ys, ThX (some B101) w' x) ∧ (∀ x ∈ ys, RowS 29 3 w.heap.size w' x) ∧ f' 4 = .int .i64 (k : Int) ∧ f' 0 = .slice a ms.length c ∧ f' 2 = .slice none 0 0 ∧ f' 3 = .slice (some ⟨B101, 0, none⟩) ms.length ms.length ∧ w.grownBy w' none ∧ Blk w' B101 45 ((padM ms.length ys).flatMap MTh.cells).toArray) (ms.length - 0) ⟨0, ([] : List MTh), rfl, (Nat.zero_le _), rfl, rfl, (fun x hx => by simp at hx), (fun x hx => by simp at hx), rfl, rfl, rfl, rfl, hb104, (by rw [padM_zero]; exact hN103.blk)⟩ ?_
 rintro mm f105 w106 ⟨k, ys, hm108, hk, hyk, hyt, hya, hyr, e109, e110, e111, e112, hb107, k113⟩
 refine wpf_seq ?_
 refine wpf_seq_region ?_
 refine wpo_move (v := .int .i64 (k : Int)) e109 rfl ?_
 refine wpo_move (v := .slice a ms.length c) e110 rfl ?_
 refine wpo_len (by kernel_rfl) rfl rfl ?_
 refine wpo_lss (q := decide ((k : Int) < (ms.length : Int))) rfl rfl rfl rfl ?_
 refine wpo_nil ?_
 refine wpf_cond rfl (fun h114 => ?_) (fun h114 => ?_)
 ·
  have h115 := of_decide_eq_true h114
  refine wpf_skip ?_
  refine thn_n ?_
  refine wpf_seq ?_
  refine wpf_block ?_
  refine wpf_region ?_
  refine wpo_move (v := .slice (some ⟨B101, 0, none⟩) ms.length ms.length) e112 rfl ?_
  refine wpo_move (v := .int .i64 (k : Int)) e109 rfl ?_
  refine wpo_move (v := .slice a ms.length c) e110 rfl ?_
  refine wpo_move (v := .int .i64 (k : Int)) e109 rfl ?_
  obtain ⟨b118, q119, o120, ha121, ho122, hr123⟩ := SlAt.at (TabAt.low ht hb107).1 (map_get (mAt_get (show k < ms.length by omega)))
  have hle124 := TabLen.at hlen (mAt_get (show k < ms.length by omega))
  refine wpo_indexE es_61 rfl rfl ha121 ho122 (by omega) (by omega) rfl ?_
  refine wpo_loadn (vs := [.int .i64 ((mAt ms k).t.kind), .int .i64 ((mAt ms k).t.lab.s), .int .i64 ((mAt ms k).t.lab.v), .int .i64 ((mAt ms k).t.ve), .int .i64 ((mAt ms k).t.num), .slice ((mAt ms k).sa) ((mAt ms k).t.slots.length) ((mAt ms k).sc), .slice ((mAt ms k).qa) ((mAt ms k).t.queue.length) ((mAt ms k).qc), .int .i64 ((mAt ms k).t.to)]) rt_111 rfl rfl (range_sub hr123 0 8 rfl) rfl ?_
  refine wpo_call (vs := [.agg #[.int .i64 ((mAt ms k).t.kind), .int .i64 ((mAt ms k).t.lab.s), .int .i64 ((mAt ms k).t.lab.v), .int .i64 ((mAt ms k).t.ve), .int .i64 ((mAt ms k).t.num), .slice ((mAt ms k).sa) ((mAt ms k).t.slots.length) ((mAt ms k).sc), .slice ((mAt ms k).qa) ((mAt ms k).t.queue.length) ((mAt ms k).qc), .int .i64 ((mAt ms k).t.to)]]) gf_90 (args_cons rfl args_nil) rfl (toThing_d _ (mAt ms k) (TabAt.th (TabAt.low ht hb107) (mAt_get (show k < ms.length by omega))) (by omega)) ?_
  rintro _ w130 ⟨m125, rfl, he126, hX127, hRS128, hg129⟩
  have hb131 := low0 hb107 hg129
  refine wpo_indexAddr (o' := k * 8) es_54 rfl rfl (by omega) (by omega) (by omega) rfl ?_
  have k132 := (k113.grown0 hg129)
  refine wpo_storen (vs := [.int .i64 m125.t.kind, .int .i64 m125.t.lab.s, .int .i64 m125.t.lab.v, .int .i64 m125.t.ve, .int .i64 m125.t.num, .slice m125.sa m125.t.slots.length m125.sc, .slice m125.qa m125.t.queue.length m125.qc, .int .i64 m125.t.to]) (cs' := (((padM ms.length ys).set k m125).flatMap MTh.cells).toArray) rt_45 rfl rfl rfl (by simp [Value.oneCell']) k132 (rows_le wide_mth (by rw [padM_len (by omega)]; omega)) (rows_setA wide_mth (by rw [padM_len (by omega)]; omega) m125) ?_
  intro w133 hS134
  have hb135 := low1 hb131 hS134.grw (by omega)
  refine wpo_nil ?_
  refine blk_n ?_
  refine thn_n ?_
  refine wpf_region ?_
  refine wpo_move (v := .int .i64 (k : Int)) e109 rfl ?_
  refine wpo_add (c := (k : Int) + 1) rfl rfl (by omega) (by omega) (by omega) rfl ?_
  refine wpo_assign (v := .int .i64 ((k : Int) + 1)) rfl rfl ?_
  refine wpo_nil ?_
  refine thn_n ?_
  exact ⟨ms.length - (k + 1), by omega, (k + 1), (ys ++ [m125]), rfl, (by omega), (by rw [List.length_append, hyk]; rfl), (tabT_snoc hyt (mAt_get (show k < ms.length by omega)) he126), (fun x hx => by rcases List.mem_append.1 hx with h | h; exact (((hya x h).low hg129).grown hS134.grw); (have e := List.mem_singleton.1 h; subst e; exact ((hX127 B101 (k113).lt).grown hS134.grw))), (fun x hx => by rcases List.mem_append.1 hx with h | h; exact (((hyr x h).low hg129).step hS134.grw k132 (by decide) (by decide)); (have e := List.mem_singleton.1 h; subst e; exact ((RowS.mono hRS128 hb107.size).step hS134.grw k132 (by decide) (by decide)))), rfl, e110, e111, e112, hb135, (by have kk := hS134.blk; rw [padM_set hyk (by omega)] at kk; exact kk)⟩
 ·
  have h136 := of_decide_eq_false h114
  refine wpf_exit ?_
  refine thn_e ?_
  refine thn_e ?_
  refine blk_e ?_
  refine thn_n ?_
  refine wpf_seq_region ?_
  refine wpo_move (v := .slice (some ⟨B101, 0, none⟩) ms.length ms.length) e112 rfl ?_
  refine wpo_assign (v := .slice (some ⟨B101, 0, none⟩) ms.length ms.length) rfl rfl ?_
  refine wpo_nil ?_
  refine wpf_ret ?_
  have hyl : ys.length = ms.length := by omega
  have kk := k113
  rw [padM_all hyl] at kk
  refine ⟨.slice (some ⟨B101, 0, none⟩) ms.length ms.length, res1 rfl rfl, B101, ys, by rw [hyl], tabT_all hyt (by omega), hlB101, kk, hya, hyr, hb107⟩
theorem markRightS_m (n : Int) (hn0 : 0 ≤ n ∧ n ≤ 1125899906842624) (a : Option Addr) (l c S : Nat) (xs : List Rt) (w : World) (ha : a = some ⟨S, 0, none⟩) (hc : c = l) (hx : xs.length = l) (hb : Blk w S 29 (xs.flatMap Rt.cells).toArray) (hl : l ≤ 1048576) :
 CallsR Try.prog 78 #[.slice a l c, .int .i64 n] w (fun v w' => v = .int .i64 (n + 5 * (l : Int)) ∧ ∃ xs' : List Rt, xs'.length = xs.length ∧ Blk w' S 29 (xs'.flatMap Rt.cells).toArray ∧ w.grownBy w' (some S)) := by
  subst ha; subst hc; subst hx
  refine CallsR.mono (markRightS_c n hn0 S xs.length xs w (Own.rows wide_rt hb (by omega)) hl) ?_
  rintro _ w' ⟨rfl, hO, hg⟩
  rw [List.length_map, List.length_range] at hO
  exact ⟨rfl, _, by rw [List.length_map, List.length_range], Own.full hO, hg⟩
theorem markIntS_m (n : Int) (hn0 : 0 ≤ n ∧ n ≤ 1125899906842624) (a : Option Addr) (l c S : Nat) (xs : List Int) (w : World) (ha : a = some ⟨S, 0, none⟩) (hc : c = l) (hx : xs.length = l) (hb : Blk w S 3 (xs.flatMap icell).toArray) (hl : l ≤ 1048576) :
 CallsR Try.prog 79 #[.slice a l c, .int .i64 n] w (fun v w' => v = .int .i64 (n + (l : Int)) ∧ ∃ xs' : List Int, xs'.length = xs.length ∧ Blk w' S 3 (xs'.flatMap icell).toArray ∧ w.grownBy w' (some S)) := by
  subst ha; subst hc; subst hx
  refine CallsR.mono (markIntS_c n hn0 S xs.length xs w (Own.rows wide_int hb (by omega)) hl) ?_
  rintro _ w' ⟨rfl, hO, hg⟩
  rw [List.length_map, List.length_range] at hO
  exact ⟨rfl, _, by rw [List.length_map, List.length_range], Own.full hO, hg⟩
theorem markThingS_c (lo : Nat) (n : Int) (hn0 : 0 ≤ n ∧ n ≤ 1048576) (B : Nat) (ms : List MTh) (w : World) (hB : Blk w B 45 (ms.flatMap MTh.cells).toArray) (hr : RowsS 29 3 lo w ms) (hlo : lo ≤ B) (hn : ms.length ≤ 1048576) : CallsR Try.prog 48 #[.slice (some ⟨B, 0, none⟩) ms.length ms.length, .int .i64 n] w (fun v w' => ∃ m : Int, v = .int .i64 m ∧ n ≤ m ∧ m ≤ n + 6291462 * (ms.length : Int) ∧ Keeps lo [45, 29, 3] w w') := by
 refine calls_of_wpf (n := 71) Try.func48 rfl Try.ntmps48 rfl ?_
 have hb0 : Keeps lo [45, 29, 3] w w := Keeps.refl w
 refine wpf_seq_region ?_
 refine wpo_assign (v := .int .i64 0) rfl rfl ?_
 refine wpo_nil ?_
 refine wpf_seq ?_
 refine wpf_seq_region ?_
 refine wpo_assign (v := .int .i64 0) rfl rfl ?_
 refine wpo_nil ?_
 refine wpf_block ?_
 refine wpf_loopN (fun mm f' w' => ∃ (k : Nat) (m : Int) (ps : List MTh), mm = ms.length - k ∧ k ≤ ms.length ∧ ps.length = ms.length ∧ (n ≤ m ∧ m ≤ n + 6291462 * (k : Int)) ∧ RowsS 29 3 lo w' ps ∧ f' 1 = .int .i64 m ∧ f' 5 = .int .i64 (k : Int) ∧ f' 0 = .slice (some ⟨B, 0, none⟩) ms.length ms.length ∧ f' 4 = .int .i64 0 ∧ Keeps lo [45, 29, 3] w w' ∧ Dw.Own w' B 45 8 ms.length ps.length (ps.flatMap MTh.cells)) (ms.length - 0) ⟨0, n, ms, rfl, (Nat.zero_le _), rfl, (by omega), hr, rfl, rfl, rfl, rfl, hb0, (Own.rows wide_mth hB (by omega))⟩ ?_
 rintro mm f101 w102 ⟨k, m, ps, hm104, hk, hpl, hmb, hrs, e105, e106, e107, e108, hb103, k109⟩
 refine wpf_seq ?_
 refine wpf_seq_region ?_
 refine wpo_move (v := .int .i64 (k : Int)) e106 rfl ?_
 refine wpo_move (v := .slice (some ⟨B, 0, none⟩) ms.length ms.length) e107 rfl ?_
 refine wpo_len (by kernel_rfl) rfl rfl ?_
 refine wpo_lss (q := decide ((k : Int) < (ms.length : Int))) rfl rfl rfl rfl ?_
 refine wpo_nil ?_
 refine wpf_cond rfl (fun h110 => ?_) (fun h110 => ?_)
 ·
  have h111 := of_decide_eq_true h110
  refine wpf_skip ?_
  refine thn_n ?_
  refine wpf_seq ?_
  refine wpf_block ?_
  refine wpf_seq_region ?_
  refine wpo_move (v := .slice (some ⟨B, 0, none⟩) ms.length ms.length) e107 rfl ?_
  refine wpo_move (v := .int .i64 (k : Int)) e106 rfl ?_
  refine wpo_move (v := .int .i64 m) e105 rfl ?_
  refine wpo_indexAddr (o' := k * 8) es_54 rfl rfl (by omega) (by omega) (by omega) rfl ?_
  refine wpo_fieldAddr (o' := k * 8) fo_45_0 rfl rfl rfl ?_
  refine wpo_store1O (g := MTh.cells) (j := 0) (z := (mAt ps k)) (z' := (⟨⟨m, ((mAt ps k).t.lab), (mAt ps k).t.ve, (mAt ps k).t.num, (mAt ps k).t.slots, (mAt ps k).t.queue, (mAt ps k).t.to⟩, (mAt ps k).sa, (mAt ps k).sc, (mAt ps k).qa, (mAt ps k).qc⟩ : MTh)) (v := .int .i64 m) ot_3 rfl rfl rfl wide_mth k109 (mAt_get (show k < ps.length by omega)) (by omega) rfl rfl ?_
  intro w112 hO113 hg114
  have hb115 := Keeps.own hb103 hg114 k109 (by decide) (by omega)
  refine wpo_nil ?_
  refine wpf_seq_region ?_
  refine wpo_move (v := .int .i64 m) e105 rfl ?_
  refine wpo_add (c := m + 1) rfl rfl (by omega) (by omega) (by omega) rfl ?_
  refine wpo_assign (v := .int .i64 (m + 1)) rfl rfl ?_
  refine wpo_nil ?_
  refine wpf_seq_region ?_
  refine wpo_move (v := .slice (some ⟨B, 0, none⟩) ms.length ms.length) e107 rfl ?_
  refine wpo_move (v := .int .i64 (k : Int)) e106 rfl ?_
  refine wpo_move (v := .int .i64 (m + 1)) rfl rfl ?_
  refine wpo_indexAddr (o' := k * 8) es_54 rfl rfl (by omega) (by omega) (by omega) rfl ?_
  refine wpo_fieldAddr (o' := k * 8 + 1) fo_45_1 rfl rfl rfl ?_
  refine wpo_fieldAddr (o' := k * 8 + 1) fo_40_0 rfl rfl rfl ?_
  refine wpo_store1O (g := MTh.cells) (j := 1) (z := (⟨⟨m, ((mAt ps k).t.lab), (mAt ps k).t.ve, (mAt ps k).t.num, (mAt ps k).t.slots, (mAt ps k).t.queue, (mAt ps k).t.to⟩, (mAt ps k).sa, (mAt ps k).sc, (mAt ps k).qa, (mAt ps k).qc⟩ : MTh)) (z' := (⟨⟨m, ⟨m + 1, (mAt ps k).t.lab.v⟩, (mAt ps k).t.ve, (mAt ps k).t.num, (mAt ps k).t.slots, (mAt ps k).t.queue, (mAt ps k).t.to⟩, (mAt ps k).sa, (mAt ps k).sc, (mAt ps k).qa, (mAt ps k).qc⟩ : MTh)) (v := .int .i64 (m + 1)) ot_3 rfl rfl rfl wide_mth hO113 (get_set (mAt_get (show k < ps.length by omega))) (by omega) rfl rfl ?_
  intro w116 hO117 hg118
  have hb119 := Keeps.own hb115 hg118 hO113 (by decide) (by omega)
  refine wpo_nil ?_
  refine wpf_seq_region ?_
  refine wpo_move (v := .int .i64 (m + 1)) rfl rfl ?_
  refine wpo_add (c := m + 1 + 1) rfl rfl (by omega) (by omega) (by omega) rfl ?_
  refine wpo_assign (v := .int .i64 (m + 1 + 1)) rfl rfl ?_
  refine wpo_nil ?_
  refine wpf_seq_region ?_
  refine wpo_move (v := .slice (some ⟨B, 0, none⟩) ms.length ms.length) e107 rfl ?_
  refine wpo_move (v := .int .i64 (k : Int)) e106 rfl ?_
  refine wpo_move (v := .int .i64 (m + 1 + 1)) rfl rfl ?_
  refine wpo_indexAddr (o' := k * 8) es_54 rfl rfl (by omega) (by omega) (by omega) rfl ?_
  refine wpo_fieldAddr (o' := k * 8 + 1) fo_45_1 rfl rfl rfl ?_
  refine wpo_fieldAddr (o' := k * 8 + 2) fo_40_1 rfl rfl rfl ?_
  refine wpo_store1O (g := MTh.cells) (j := 2) (z := (⟨⟨m, ⟨m + 1, (mAt ps k).t.lab.v⟩, (mAt ps k).t.ve, (mAt ps k).t.num, (mAt ps k).t.slots, (mAt ps k).t.queue, (mAt ps k).t.to⟩, (mAt ps k).sa, (mAt ps k).sc, (mAt ps k).qa, (mAt ps k).qc⟩ : MTh)) (z' := (⟨⟨m, ⟨m + 1, m + 1 + 1⟩, (mAt ps k).t.ve, (mAt ps k).t.num, (mAt ps k).t.slots, (mAt ps k).t.queue, (mAt ps k).t.to⟩, (mAt ps k).sa, (mAt ps k).sc, (mAt ps k).qa, (mAt ps k).qc⟩ : MTh)) (v := .int .i64 (m + 1 + 1)) ot_3 rfl rfl rfl wide_mth (Own.set2 hO117) (get_set (mAt_get (show k < ps.length by omega))) (by omega) rfl rfl ?_
  intro w120 hO121 hg122
  have hb123 := Keeps.own hb119 hg122 (Own.set2 hO117) (by decide) (by omega)
  refine wpo_nil ?_
  refine wpf_seq_region ?_
  refine wpo_move (v := .int .i64 (m + 1 + 1)) rfl rfl ?_
  refine wpo_add (c := m + 1 + 1 + 1) rfl rfl (by omega) (by omega) (by omega) rfl ?_
  refine wpo_assign (v := .int .i64 (m + 1 + 1 + 1)) rfl rfl ?_
  refine wpo_nil ?_
  refine wpf_seq_region ?_
  refine wpo_move (v := .slice (some ⟨B, 0, none⟩) ms.length ms.length) e107 rfl ?_
  refine wpo_move (v := .int .i64 (k : Int)) e106 rfl ?_
  refine wpo_move (v := .int .i64 (m + 1 + 1 + 1)) rfl rfl ?_
  refine wpo_indexAddr (o' := k * 8) es_54 rfl rfl (by omega) (by omega) (by omega) rfl ?_
  refine wpo_fieldAddr (o' := k * 8 + 3) fo_45_2 rfl rfl rfl ?_
  refine wpo_store1O (g := MTh.cells) (j := 3) (z := (⟨⟨m, ⟨m + 1, m + 1 + 1⟩, (mAt ps k).t.ve, (mAt ps k).t.num, (mAt ps k).t.slots, (mAt ps k).t.queue, (mAt ps k).t.to⟩, (mAt ps k).sa, (mAt ps k).sc, (mAt ps k).qa, (mAt ps k).qc⟩ : MTh)) (z' := (⟨⟨m, ⟨m + 1, m + 1 + 1⟩, m + 1 + 1 + 1, (mAt ps k).t.num, (mAt ps k).t.slots, (mAt ps k).t.queue, (mAt ps k).t.to⟩, (mAt ps k).sa, (mAt ps k).sc, (mAt ps k).qa, (mAt ps k).qc⟩ : MTh)) (v := .int .i64 (m + 1 + 1 + 1)) ot_3 rfl rfl rfl wide_mth (Own.set2 hO121) (get_set (mAt_get (show k < ps.length by omega))) (by omega) rfl rfl ?_
  intro w124 hO125 hg126
  have hb127 := Keeps.own hb123 hg126 (Own.set2 hO121) (by decide) (by omega)
  refine wpo_nil ?_
  refine wpf_seq_region ?_
  refine wpo_move (v := .int .i64 (m + 1 + 1 + 1)) rfl rfl ?_
  refine wpo_add (c := m + 1 + 1 + 1 + 1) rfl rfl (by omega) (by omega) (by omega) rfl ?_
  refine wpo_assign (v := .int .i64 (m + 1 + 1 + 1 + 1)) rfl rfl ?_
  refine wpo_nil ?_
  refine wpf_seq_region ?_
  refine wpo_move (v := .slice (some ⟨B, 0, none⟩) ms.length ms.length) e107 rfl ?_
  refine wpo_move (v := .int .i64 (k : Int)) e106 rfl ?_
  refine wpo_move (v := .int .i64 (m + 1 + 1 + 1 + 1)) rfl rfl ?_
  refine wpo_indexAddr (o' := k * 8) es_54 rfl rfl (by omega) (by omega) (by omega) rfl ?_
  refine wpo_fieldAddr (o' := k * 8 + 4) fo_45_3 rfl rfl rfl ?_
  refine wpo_store1O (g := MTh.cells) (j := 4) (z := (⟨⟨m, ⟨m + 1, m + 1 + 1⟩, m + 1 + 1 + 1, (mAt ps k).t.num, (mAt ps k).t.slots, (mAt ps k).t.queue, (mAt ps k).t.to⟩, (mAt ps k).sa, (mAt ps k).sc, (mAt ps k).qa, (mAt ps k).qc⟩ : MTh)) (z' := (⟨⟨m, ⟨m + 1, m + 1 + 1⟩, m + 1 + 1 + 1, m + 1 + 1 + 1 + 1, (mAt ps k).t.slots, (mAt ps k).t.queue, (mAt ps k).t.to⟩, (mAt ps k).sa, (mAt ps k).sc, (mAt ps k).qa, (mAt ps k).qc⟩ : MTh)) (v := .int .i64 (m + 1 + 1 + 1 + 1)) ot_3 rfl rfl rfl wide_mth (Own.set2 hO125) (get_set (mAt_get (show k < ps.length by omega))) (by omega) rfl rfl ?_
  intro w128 hO129 hg130
  have hb131 := Keeps.own hb127 hg130 (Own.set2 hO125) (by decide) (by omega)
  refine wpo_nil ?_
  refine wpf_seq_region ?_
  refine wpo_move (v := .int .i64 (m + 1 + 1 + 1 + 1)) rfl rfl ?_
  refine wpo_add (c := m + 1 + 1 + 1 + 1 + 1) rfl rfl (by omega) (by omega) (by omega) rfl ?_
  refine wpo_assign (v := .int .i64 (m + 1 + 1 + 1 + 1 + 1)) rfl rfl ?_
  refine wpo_nil ?_
  refine wpf_seq_region ?_
  refine wpo_move (v := .slice (some ⟨B, 0, none⟩) ms.length ms.length) e107 rfl ?_
  refine wpo_move (v := .int .i64 (k : Int)) e106 rfl ?_
  refine wpo_indexAddr (o' := k * 8) es_54 rfl rfl (by omega) (by omega) (by omega) rfl ?_
  refine wpo_fieldAddr (o' := k * 8 + 5) fo_45_4 rfl rfl rfl ?_
  refine wpo_load1 (v := .slice ((mAt ps k).sa) ((mAt ps k).t.slots.length) ((mAt ps k).sc)) ot_27 rfl ((Own.range wide_mth (Own.set2 hO129) (get_set (mAt_get (show k < ps.length by omega)))) 5 _ rfl) rfl ?_
  refine wpo_move (v := .int .i64 (m + 1 + 1 + 1 + 1 + 1)) rfl rfl ?_
  have hRw132 := (RowsS.own (RowsS.own (RowsS.own (RowsS.own (RowsS.own hrs hg114 k109 (by decide) (by decide)) hg118 hO113 (by decide) (by decide)) hg122 (Own.set2 hO117) (by decide) (by decide)) hg126 (Own.set2 hO121) (by decide) (by decide)) hg130 (Own.set2 hO125) (by decide) (by decide))
  obtain ⟨S133, xs134, ha135, hlo136, hc137, hx138, hb139⟩ := (RowsS.at hRw132 (show k < ps.length by omega)).s
  have hle140 := (RowsS.at hRw132 (show k < ps.length by omega)).ls
  have ne_B_S133 : B ≠ S133 := own_blk_ne (Own.set2 hO129) hb139 (by decide)
  refine wpo_call (vs := [.slice ((mAt ps k).sa) ((mAt ps k).t.slots.length) ((mAt ps k).sc), .int .i64 (m + 1 + 1 + 1 + 1 + 1)]) gf_78 (args_cons rfl (args_cons rfl args_nil)) rfl (markRightS_m (m + 1 + 1 + 1 + 1 + 1) (by omega) _ _ _ S133 xs134 _ ha135 hc137 hx138 hb139 hle140) ?_
  rintro _ w141 ⟨rfl, xs142, hl143, hb144, hg145⟩
  have hb146 := Keeps.put hb131 hg145 hb139 (by decide) (by omega)
  refine wpo_assign (v := .int .i64 (m + 1 + 1 + 1 + 1 + 1 + 5 * ((mAt ps k).t.slots.length : Int))) rfl rfl ?_
  refine wpo_nil ?_
  refine wpf_seq_region ?_
  refine wpo_move (v := .slice (some ⟨B, 0, none⟩) ms.length ms.length) e107 rfl ?_
  refine wpo_move (v := .int .i64 (k : Int)) e106 rfl ?_
  refine wpo_indexAddr (o' := k * 8) es_54 rfl rfl (by omega) (by omega) (by omega) rfl ?_
  refine wpo_fieldAddr (o' := k * 8 + 6) fo_45_5 rfl rfl rfl ?_
  have k147 := ((Own.set2 hO129).grown hg145 (some_ne (by omega)))
  refine wpo_load1 (v := .slice ((mAt ps k).qa) ((mAt ps k).t.queue.length) ((mAt ps k).qc)) ot_43 rfl ((Own.range wide_mth k147 (get_set (mAt_get (show k < ps.length by omega)))) 6 _ rfl) rfl ?_
  refine wpo_move (v := .int .i64 (m + 1 + 1 + 1 + 1 + 1 + 5 * ((mAt ps k).t.slots.length : Int))) rfl rfl ?_
  have hRw148 := (RowsS.marks hRw132 hg145 hb139 hb144 hl143 (by decide))
  obtain ⟨S149, xs150, ha151, hlo152, hc153, hx154, hb155⟩ := (RowsS.at hRw148 (show k < ps.length by omega)).q
  have hle156 := (RowsS.at hRw148 (show k < ps.length by omega)).lq
  have ne_B_S149 : B ≠ S149 := own_blk_ne k147 hb155 (by decide)
  refine wpo_call (vs := [.slice ((mAt ps k).qa) ((mAt ps k).t.queue.length) ((mAt ps k).qc), .int .i64 (m + 1 + 1 + 1 + 1 + 1 + 5 * ((mAt ps k).t.slots.length : Int))]) gf_79 (args_cons rfl (args_cons rfl args_nil)) rfl (markIntS_m (m + 1 + 1 + 1 + 1 + 1 + 5 * ((mAt ps k).t.slots.length : Int)) (by omega) _ _ _ S149 xs150 _ ha151 hc153 hx154 hb155 hle156) ?_
  rintro _ w157 ⟨rfl, xs158, hl159, hb160, hg161⟩
  have hb162 := Keeps.put hb146 hg161 hb155 (by decide) (by omega)
  refine wpo_assign (v := .int .i64 (m + 1 + 1 + 1 + 1 + 1 + 5 * ((mAt ps k).t.slots.length : Int) + ((mAt ps k).t.queue.length : Int))) rfl rfl ?_
  refine wpo_nil ?_
  refine wpf_seq_region ?_
  refine wpo_move (v := .slice (some ⟨B, 0, none⟩) ms.length ms.length) e107 rfl ?_
  refine wpo_move (v := .int .i64 (k : Int)) e106 rfl ?_
  refine wpo_move (v := .int .i64 (m + 1 + 1 + 1 + 1 + 1 + 5 * ((mAt ps k).t.slots.length : Int) + ((mAt ps k).t.queue.length : Int))) rfl rfl ?_
  refine wpo_indexAddr (o' := k * 8) es_54 rfl rfl (by omega) (by omega) (by omega) rfl ?_
  refine wpo_fieldAddr (o' := k * 8 + 7) fo_45_6 rfl rfl rfl ?_
  have k163 := (k147.grown hg161 (some_ne (by omega)))
  refine wpo_store1O (g := MTh.cells) (j := 7) (z := (⟨⟨m, ⟨m + 1, m + 1 + 1⟩, m + 1 + 1 + 1, m + 1 + 1 + 1 + 1, (mAt ps k).t.slots, (mAt ps k).t.queue, (mAt ps k).t.to⟩, (mAt ps k).sa, (mAt ps k).sc, (mAt ps k).qa, (mAt ps k).qc⟩ : MTh)) (z' := (⟨⟨m, ⟨m + 1, m + 1 + 1⟩, m + 1 + 1 + 1, m + 1 + 1 + 1 + 1, (mAt ps k).t.slots, (mAt ps k).t.queue, m + 1 + 1 + 1 + 1 + 1 + 5 * ((mAt ps k).t.slots.length : Int) + ((mAt ps k).t.queue.length : Int)⟩, (mAt ps k).sa, (mAt ps k).sc, (mAt ps k).qa, (mAt ps k).qc⟩ : MTh)) (v := .int .i64 (m + 1 + 1 + 1 + 1 + 1 + 5 * ((mAt ps k).t.slots.length : Int) + ((mAt ps k).t.queue.length : Int))) ot_3 rfl rfl rfl wide_mth k163 (get_set (mAt_get (show k < ps.length by omega))) (by omega) rfl rfl ?_
  intro w164 hO165 hg166
  have hb167 := Keeps.own hb162 hg166 k163 (by decide) (by omega)
  refine wpo_nil ?_
  refine wpf_region ?_
  refine wpo_move (v := .int .i64 (m + 1 + 1 + 1 + 1 + 1 + 5 * ((mAt ps k).t.slots.length : Int) + ((mAt ps k).t.queue.length : Int))) rfl rfl ?_
  refine wpo_add (c := m + 1 + 1 + 1 + 1 + 1 + 5 * ((mAt ps k).t.slots.length : Int) + ((mAt ps k).t.queue.length : Int) + 1) rfl rfl (by omega) (by omega) (by omega) rfl ?_
  refine wpo_assign (v := .int .i64 (m + 1 + 1 + 1 + 1 + 1 + 5 * ((mAt ps k).t.slots.length : Int) + ((mAt ps k).t.queue.length : Int) + 1)) rfl rfl ?_
  refine wpo_nil ?_
  refine blk_n ?_
  refine thn_n ?_
  refine wpf_region ?_
  refine wpo_move (v := .int .i64 (k : Int)) e106 rfl ?_
  refine wpo_add (c := (k : Int) + 1) rfl rfl (by omega) (by omega) (by omega) rfl ?_
  refine wpo_assign (v := .int .i64 ((k : Int) + 1)) rfl rfl ?_
  refine wpo_nil ?_
  refine thn_n ?_
  have hRw168 := (RowsS.own (RowsS.markq hRw148 hg161 hb155 hb160 hl159 (by decide)) hg166 k163 (by decide) (by decide))
  exact ⟨ms.length - (k + 1), by omega, (k + 1), (m + 1 + 1 + 1 + 1 + 1 + 5 * ((mAt ps k).t.slots.length : Int) + ((mAt ps k).t.queue.length : Int) + 1), (ps.set k (⟨⟨m, ⟨m + 1, m + 1 + 1⟩, m + 1 + 1 + 1, m + 1 + 1 + 1 + 1, (mAt ps k).t.slots, (mAt ps k).t.queue, m + 1 + 1 + 1 + 1 + 1 + 5 * ((mAt ps k).t.slots.length : Int) + ((mAt ps k).t.queue.length : Int)⟩, (mAt ps k).sa, (mAt ps k).sc, (mAt ps k).qa, (mAt ps k).qc⟩ : MTh)), rfl, (by omega), (by rw [List.length_set]; omega), (by omega), (RowsS.set hRw168 (show k < ps.length by omega) ⟨rfl, rfl, rfl⟩ ⟨rfl, rfl, rfl⟩), rfl, rfl, e107, e108, hb167, (Own.set2 hO165)⟩
 ·
  have h169 := of_decide_eq_false h110
  refine wpf_exit ?_
  refine thn_e ?_
  refine thn_e ?_
  refine blk_e ?_
  refine thn_n ?_
  refine wpf_seq_region ?_
  refine wpo_move (v := .int .i64 m) e105 rfl ?_
  refine wpo_assign (v := .int .i64 m) rfl rfl ?_
  refine wpo_nil ?_
  refine wpf_ret ?_
  refine ⟨.int .i64 m, res1 rfl rfl, m, rfl, by omega, by omega, hb103⟩
theorem gf_37 : goFn Try.prog 37 = true := by kernel_rfl
theorem gf_38 : goFn Try.prog 38 = true := by kernel_rfl
theorem gf_39 : goFn Try.prog 39 = true := by kernel_rfl
theorem gf_40 : goFn Try.prog 40 = true := by kernel_rfl
theorem gf_42 : goFn Try.prog 42 = true := by kernel_rfl
theorem gf_44 : goFn Try.prog 44 = true := by kernel_rfl
theorem gf_46 : goFn Try.prog 46 = true := by kernel_rfl
theorem gf_47 : goFn Try.prog 47 = true := by kernel_rfl
theorem gf_48 : goFn Try.prog 48 = true := by kernel_rfl
theorem gf_49 : goFn Try.prog 49 = true := by kernel_rfl
theorem gf_50 : goFn Try.prog 50 = true := by kernel_rfl
theorem law_FnExactRunLow (l : Lab) (w : World) (ms : List MTh) (a : Option Addr) (c : Nat) (ht : TabAt w a ms) (hbig : TabBig ms) (hn : ms.length ≤ 9223372036854775807) (cs : List Cl) (b : Option Addr) (e : Nat) (hs : SlAt w b 5 (cs.map Cl.cells)) (hm : cs.length ≤ 9223372036854775807) : CallsR Try.prog 11 #[.slice a ms.length c, .slice b cs.length e, .agg #[.int .i64 l.s, .int .i64 l.v]] w (fun v w' => v = .bool true ∧ w.grownBy w' none) := by
 refine calls_of_wpf (n := 100) Try.func11 rfl Try.ntmps11 rfl ?_
 have hb0 := World.grownBy.refl w none
 refine wpf_seq_region ?_
 refine wpo_box (v := .agg #[.int .i64 l.s, .int .i64 l.v]) (cs := #[.int .i64 l.s, .int .i64 l.v]) rfl rfl rfl ?_
 intro B101 w102 hN103
 have hlB101 := hN_ge hN103 hb0
 have hb104 := low0 hb0 hN103.grw
 refine wpo_assign (v := .bool false) rfl rfl ?_
 refine wpo_nil ?_
 refine wpf_seq_region ?_
 refine wpo_assign (v := .int .i64 1048576) rfl rfl ?_
 refine wpo_nil ?_
 refine wpf_seq_region ?_
 refine wpo_move (v := .slice a ms.length c) rfl rfl ?_
 refine wpo_move (v := .int .i64 1048576) rfl rfl ?_
 refine wpo_call (vs := [.slice a ms.length c, .int .i64 1048576]) gf_37 (args_cons rfl (args_cons rfl args_nil)) rfl (szThingS_c 1048576 _ ms _ _ (TabAt.low ht hb104) hbig (by omega) (by omega)) ?_
 rintro _ w105 ⟨n107, rfl, hn108, hn109, hn110, hg106⟩
 have hb111 := low0 hb104 hg106
 refine wpo_assign (v := .int .i64 n107) rfl rfl ?_
 refine wpo_nil ?_
 refine wpf_seq ?_
 refine wpf_seq_region ?_
 refine wpo_move (v := .int .i64 n107) rfl rfl ?_
 refine wpo_lss (q := decide (n107 < 0)) rfl rfl rfl rfl ?_
 refine wpo_nil ?_
 refine wpf_cond rfl (fun h112 => ?_) (fun h112 => ?_)
 ·
  have h113 := of_decide_eq_true h112
  refine wpf_seq_region ?_
  refine wpo_assign (v := .bool true) rfl rfl ?_
  refine wpo_nil ?_
  refine wpf_ret ?_
  refine thn_r ?_
  refine ⟨.bool true, res1 rfl rfl, ?_, hb111⟩
  rfl
 ·
  obtain ⟨hlen114, hn115⟩ := hn108 (by have hq := of_decide_eq_false h112; omega)
  have h116 := of_decide_eq_false h112
  refine wpf_skip ?_
  refine thn_n ?_
  refine wpf_seq_region ?_
  refine wpo_move (v := .slice b cs.length e) rfl rfl ?_
  refine wpo_move (v := .int .i64 n107) rfl rfl ?_
  refine wpo_call (vs := [.slice b cs.length e, .int .i64 n107]) gf_40 (args_cons rfl (args_cons rfl args_nil)) rfl (szCallS_c n107 _ cs _ _ (by omega) (by omega)) ?_
  rintro _ w117 ⟨n119, rfl, hn120, hn121, hn122, hg118⟩
  have hb123 := low0 hb111 hg118
  refine wpo_assign (v := .int .i64 n119) rfl rfl ?_
  refine wpo_nil ?_
  refine wpf_seq ?_
  refine wpf_seq_region ?_
  refine wpo_move (v := .int .i64 n119) rfl rfl ?_
  refine wpo_lss (q := decide (n119 < 0)) rfl rfl rfl rfl ?_
  refine wpo_nil ?_
  refine wpf_cond rfl (fun h124 => ?_) (fun h124 => ?_)
  ·
   have h125 := of_decide_eq_true h124
   refine wpf_seq_region ?_
   refine wpo_assign (v := .bool true) rfl rfl ?_
   refine wpo_nil ?_
   refine wpf_ret ?_
   refine thn_r ?_
   refine ⟨.bool true, res1 rfl rfl, ?_, hb123⟩
   rfl
  ·
   have h126 := of_decide_eq_false h124
   refine wpf_skip ?_
   refine thn_n ?_
   refine wpf_seq ?_
   refine wpf_drawI (m := 5) [[], [0], [], [0, 1, 2], [], [0, 1, 2, 3, 4], [0, 1, 2, 3, 4, 5], [0, 1, 2, 3, 4, 5, 6]] (fun S F w' => ∃ (B229 : Nat) (ys230 : List MTh) (B243 : Nat), w117.grownBy w' none ∧ F 0 = .slice a ms.length c ∧ F 1 = .slice b cs.length e ∧ F 5 = .pointer (some ⟨B101, 0, none⟩) ∧ F 6 = .bool false ∧ (S 0 = true → F 26 = .slice a ms.length c) ∧ (S 1 = true → F 27 = .slice (some ⟨B229, 0, none⟩) ys230.length ys230.length ∧ tabT ys230 = tabT ms ∧ TabLen ys230 ∧ ys230.length = ms.length ∧ TabAt w' (some ⟨B229, 0, none⟩) ys230) ∧ (S 2 = true → F 28 = .slice b cs.length e) ∧ (S 3 = true → F 29 = .slice (some ⟨B243, 0, none⟩) cs.length cs.length ∧ w.heap.size ≤ B243 ∧ Blk w' B243 76 (cs.flatMap Cl.cells).toArray ∧ B101 < B243 ∧ w117.heap.size ≤ B243) ∧ (S 4 = true → F 30 = .agg #[.int .i64 l.s, .int .i64 l.v])) mixed_ (by kernel_rfl) ⟨0, [], 0, grown_drew _, rfl, rfl, rfl, rfl, fun h => not_begun h, fun h => not_begun h, fun h => not_begun h, fun h => not_begun h, fun h => not_begun h⟩ ?_ ?_
   ·
    refine preL_cons (fun S F w250 hS hbef hcl hI => ?_) ?_
    ·
     obtain ⟨B229, ys230, B243, hi251, e252, e253, e254, e255, c_0, c_1, c_2, c_3, c_4⟩ := hI
     have hb256 := low0 hb123 hi251
     refine wpo_move (v := .slice a ms.length c) e252 rfl ?_
     exact wpo_nil ⟨B229, ys230, B243, hi251, e252, e253, e254, e255, fun _ => rfl, fun h => undone 1 hS hcl rfl h, c_2, fun h => undone 3 hS hcl rfl h, c_4⟩
    refine preL_cons (fun S F w257 hS hbef hcl hI => ?_) ?_
    ·
     obtain ⟨B229, ys230, B243, hi258, e259, e260, e261, e262, c_0, c_1, c_2, c_3, c_4⟩ := hI
     have hb263 := low0 hb123 hi258
     obtain e264 := c_0 (ready_of 0 hbef rfl)
     refine wpo_call (vs := [.slice a ms.length c]) gf_38 (args_cons e264 args_nil) rfl (toThingS_d _ ms _ _ (TabAt.low ht hb263) hlen114 (by omega)) ?_
     rintro _ w273 ⟨B265, ys266, rfl, he267, hge268, k269, hX270, hRS271, hg272⟩
     have hb277 := low0 hb263 hg272
     have hT274 : TabAt w273 (some ⟨B265, 0, none⟩) ys266 := ⟨rows_sl wide_mth k269, fun m hm => (hX270 m hm).at⟩
     have hTl275 := TabLen.of he267 hlen114
     have hll276 := tabT_length he267
     exact wpo_nil ⟨B265, ys266, B243, (low0 hi258 hg272), e259, e260, e261, e262, c_0, fun _ => ⟨rfl, he267, hTl275, hll276, hT274⟩, c_2, fun h => undone 3 hS hcl rfl h, c_4⟩
    refine preL_cons (fun S F w278 hS hbef hcl hI => ?_) ?_
    ·
     obtain ⟨B229, ys230, B243, hi279, e280, e281, e282, e283, c_0, c_1, c_2, c_3, c_4⟩ := hI
     have hb284 := low0 hb123 hi279
     refine wpo_move (v := .slice b cs.length e) e281 rfl ?_
     exact wpo_nil ⟨B229, ys230, B243, hi279, e280, e281, e282, e283, c_0, c_1, fun _ => rfl, fun h => undone 3 hS hcl rfl h, c_4⟩
    refine preL_cons (fun S F w285 hS hbef hcl hI => ?_) ?_
    ·
     obtain ⟨B229, ys230, B243, hi286, e287, e288, e289, e290, c_0, c_1, c_2, c_3, c_4⟩ := hI
     have hb291 := low0 hb123 hi286
     obtain e292 := c_0 (ready_of 0 hbef rfl)
     obtain ⟨e293, he231, hTl239, hll240, hT238⟩ := c_1 (ready_of 1 hbef rfl)
     obtain e294 := c_2 (ready_of 2 hbef rfl)
     have k295 := (((hN103.blk.grown0 hg106).grown0 hg118).grown0 hi286)
     refine wpo_call (vs := [.slice b cs.length e]) gf_42 (args_cons e294 args_nil) rfl (toCallS_c _ cs _ _ (SlAt.low hs hb291) (by omega)) ?_
     rintro _ w300 ⟨B296, rfl, hge297, k298, hg299⟩
     have hb301 := low0 hb291 hg299
     have hlB296 := Nat.le_trans hb291.size hge297
     have lt_B101_B296 := Nat.lt_of_lt_of_le (k295).lt hge297
     exact wpo_nil ⟨B229, ys230, B296, (low0 hi286 hg299), e287, e288, e289, e290, c_0, fun h => let ⟨y302, y303, y304, y305, y306⟩ := c_1 h; ⟨y302, y303, y304, y305, (y306).low hg299⟩, c_2, fun _ => ⟨rfl, hlB296, k298, lt_B101_B296, (Nat.le_trans hi286.size hge297)⟩, c_4⟩
    refine preL_cons (fun S F w307 hS hbef hcl hI => ?_) ?_
    ·
     obtain ⟨B229, ys230, B243, hi308, e309, e310, e311, e312, c_0, c_1, c_2, c_3, c_4⟩ := hI
     have hb313 := low0 hb123 hi308
     have k314 := (((hN103.blk.grown0 hg106).grown0 hg118).grown0 hi308)
     refine wpo_loadn (vs := [.int .i64 l.s, .int .i64 l.v]) rt_50 e311 rfl (k314.rangeL 0 2 rfl) rfl ?_
     exact wpo_nil ⟨B229, ys230, B243, hi308, e309, e310, e311, e312, c_0, c_1, c_2, c_3, fun _ => rfl⟩
    exact preL_nil
   ·
    intro S F w315 hall hI
    obtain ⟨B229, ys230, B243, hi316, e317, e318, e319, e320, c_0, c_1, c_2, c_3, c_4⟩ := hI
    have hb321 := low0 hb123 hi316
    obtain e322 := c_0 (hall 0 (by decide))
    obtain ⟨e323, he231, hTl239, hll240, hT238⟩ := c_1 (hall 1 (by decide))
    obtain e324 := c_2 (hall 2 (by decide))
    obtain ⟨e325, hlB243, kb_B243, lt_B101_B243, hk_B243⟩ := c_3 (hall 3 (by decide))
    obtain e326 := c_4 (hall 4 (by decide))
    refine wpo_call (vs := [.agg #[.int .i64 l.s, .int .i64 l.v]]) gf_27 (args_cons e326 args_nil) rfl (toLabel_c l _) ?_
    rintro _ w327 ⟨rfl, hg328⟩
    have hb329 := low0 hb321 hg328
    have k330 := (kb_B243.grown0 hg328)
    have k331 := ((((hN103.blk.grown0 hg106).grown0 hg118).grown0 hi316).grown0 hg328)
    refine wpo_call (vs := [.slice (some ⟨B229, 0, none⟩) ys230.length ys230.length, .slice (some ⟨B243, 0, none⟩) cs.length cs.length, .agg #[.int .i64 l.s, .int .i64 l.v]]) gf_46 (args_cons e323 (args_cons e325 (args_cons rfl args_nil))) rfl (sRunLow_c l _ ys230 _ _ (TabAt.low hT238 hg328) hTl239 (by omega) cs _ _ (rows_sl wide_cl k330) (by omega)) ?_
    rintro _ w337 ⟨B332, cap333, rfl, hge334, hO335, hg336⟩
    rw [he231] at hO335 ⊢
    have hb338 := low0 hb329 hg336
    have hrn339 := runLow_len (tabT ms) cs l
    have hlB332 := Nat.le_trans hb329.size hge334
    have lt_B101_B332 := Nat.lt_of_lt_of_le (k331).lt hge334
    have lt_B243_B332 := Nat.lt_of_lt_of_le (k330).lt hge334
    refine wpo_assign (v := .slice (some ⟨B332, 0, none⟩) ((runLow (tabT ms) cs l).length) cap333) rfl rfl ?_
    refine wpo_nil ?_
    refine thn_n ?_
    refine wpf_seq_region ?_
    refine wpo_move (v := .slice a ms.length c) e317 rfl ?_
    refine wpo_call (vs := [.slice a ms.length c]) gf_38 (args_cons rfl args_nil) rfl (toThingS_d _ ms _ _ (TabAt.low ht hb338) hlen114 (by omega)) ?_
    rintro _ w348 ⟨B340, ys341, rfl, he342, hge343, k344, hX345, hRS346, hg347⟩
    have hb352 := low0 hb338 hg347
    have hT349 : TabAt w348 (some ⟨B340, 0, none⟩) ys341 := ⟨rows_sl wide_mth k344, fun m hm => (hX345 m hm).at⟩
    have hTl350 := TabLen.of he342 hlen114
    have hll351 := tabT_length he342
    refine wpo_assign (v := .slice (some ⟨B340, 0, none⟩) ys341.length ys341.length) rfl rfl ?_
    refine wpo_nil ?_
    refine wpf_seq_region ?_
    refine wpo_move (v := .slice b cs.length e) e318 rfl ?_
    have k353 := ((k331.grown0 hg336).grown0 hg347)
    have k354 := ((k330.grown0 hg336).grown0 hg347)
    have k355 := (hO335.grown0 hg347)
    refine wpo_call (vs := [.slice b cs.length e]) gf_42 (args_cons rfl args_nil) rfl (toCallS_c _ cs _ _ (SlAt.low hs hb352) (by omega)) ?_
    rintro _ w360 ⟨B356, rfl, hge357, k358, hg359⟩
    have hb361 := low0 hb352 hg359
    have hlB356 := Nat.le_trans hb352.size hge357
    have lt_B101_B356 := Nat.lt_of_lt_of_le (k353).lt hge357
    have lt_B243_B356 := Nat.lt_of_lt_of_le (k354).lt hge357
    have lt_B332_B356 := Nat.lt_of_lt_of_le (k355).lt hge357
    refine wpo_assign (v := .slice (some ⟨B356, 0, none⟩) cs.length cs.length) rfl rfl ?_
    refine wpo_nil ?_
    refine wpf_seq_region ?_
    refine wpo_move (v := .slice (some ⟨B340, 0, none⟩) ys341.length ys341.length) rfl rfl ?_
    refine wpo_move (v := .slice (some ⟨B356, 0, none⟩) cs.length cs.length) rfl rfl ?_
    have k362 := (k353.grown0 hg359)
    refine wpo_loadn (vs := [.int .i64 l.s, .int .i64 l.v]) rt_50 e319 rfl (k362.rangeL 0 2 rfl) rfl ?_
    refine wpo_call (vs := [.agg #[.int .i64 l.s, .int .i64 l.v]]) gf_27 (args_cons rfl args_nil) rfl (toLabel_c l _) ?_
    rintro _ w363 ⟨rfl, hg364⟩
    have hb365 := low0 hb361 hg364
    have k366 := (k358.grown0 hg364)
    have k367 := (k362.grown0 hg364)
    have k368 := ((k354.grown0 hg359).grown0 hg364)
    have k369 := ((k355.grown0 hg359).grown0 hg364)
    have ltw_B101_w363 := (k367).lt
    have ltw_B243_w363 := (k368).lt
    have ltw_B332_w363 := (k369).lt
    have ltw_B356_w363 := (k366).lt
    refine wpo_call (vs := [.slice (some ⟨B340, 0, none⟩) ys341.length ys341.length, .slice (some ⟨B356, 0, none⟩) cs.length cs.length, .agg #[.int .i64 l.s, .int .i64 l.v]]) gf_47 (args_cons rfl (args_cons rfl (args_cons rfl args_nil))) rfl (RunLow_c l _ ys341 _ _ (TabAt.low hT349 (grown_trans hg359 hg364)) hTl350 (by omega) cs _ _ (rows_sl wide_cl k366) (by omega)) ?_
    rintro _ w375 ⟨a370, cap371, rfl, hO373, hg374⟩
    rw [he342] at hO373 ⊢
    have hb376 := low0 hb365 hg374
    have hrn377 := runLow_len (tabT ms) cs l
    have hlw378 : w.heap.size ≤ w363.heap.size := hb365.size
    refine wpo_assign (v := .slice a370 ((runLow (tabT ms) cs l).length) cap371) rfl rfl ?_
    refine wpo_nil ?_
    refine wpf_seq ?_
    refine wpf_seq_region ?_
    refine wpo_move (v := .slice a370 ((runLow (tabT ms) cs l).length) cap371) rfl rfl ?_
    refine wpo_move (v := .slice (some ⟨B332, 0, none⟩) ((runLow (tabT ms) cs l).length) cap333) rfl rfl ?_
    have k379 := (k369.grown0 hg374)
    refine wpo_call (vs := [.slice a370 ((runLow (tabT ms) cs l).length) cap371, .slice (some ⟨B332, 0, none⟩) ((runLow (tabT ms) cs l).length) cap333]) gf_44 (args_cons rfl (args_cons rfl args_nil)) rfl (eqCallS_c _ (runLow (tabT ms) cs l) _ _ (OwnN.sl wide_cl (by omega) hO373) (by first | omega | exact Nat.le_of_ble_eq_true rfl | (simp only [List.length_nil, List.length_cons, List.length_append, List.length_replicate]; omega)) (runLow (tabT ms) cs l) _ _ (Own.sl wide_cl k379) (by first | omega | exact Nat.le_of_ble_eq_true rfl | (simp only [List.length_nil, List.length_cons, List.length_append, List.length_replicate]; omega))) ?_
    rintro _ w380 ⟨rfl, hg381⟩
    have hb382 := low0 hb376 hg381
    refine wpo_not (b' := false) (congrArg Value.bool (decide_eq_true rfl)) rfl rfl ?_
    refine wpo_nil ?_
    refine wpf_condf rfl rfl ?_
    refine wpf_skip ?_
    refine thn_n ?_
    refine wpf_seq ?_
    refine wpf_seq_region ?_
    refine wpo_move (v := .slice (some ⟨B340, 0, none⟩) ys341.length ys341.length) rfl rfl ?_
    refine wpo_move (v := .slice a ms.length c) e317 rfl ?_
    refine wpo_call (vs := [.slice a ms.length c]) gf_38 (args_cons rfl args_nil) rfl (toThingS_d _ ms _ _ (TabAt.low ht hb382) hlen114 (by omega)) ?_
    rintro _ w391 ⟨B383, ys384, rfl, he385, hge386, k387, hX388, hRS389, hg390⟩
    have hb395 := low0 hb382 hg390
    have hT392 : TabAt w391 (some ⟨B383, 0, none⟩) ys384 := ⟨rows_sl wide_mth k387, fun m hm => (hX388 m hm).at⟩
    have hTl393 := TabLen.of he385 hlen114
    have hll394 := tabT_length he385
    refine wpo_call (vs := [.slice (some ⟨B340, 0, none⟩) ys341.length ys341.length, .slice (some ⟨B383, 0, none⟩) ys384.length ys384.length]) gf_39 (args_cons rfl (args_cons rfl args_nil)) rfl (eqThingS_c _ ys341 ys384 _ _ _ _ (TabAt.low hT349 (grown_trans (grown_trans (grown_trans (grown_trans hg359 hg364) hg374) hg381) hg390)) hT392 hTl350 hTl393 (by omega) (by omega)) ?_
    rintro _ w396 ⟨rfl, hg397⟩
    have hb398 := low0 hb395 hg397
    refine wpo_not (b' := false) (congrArg Value.bool (decide_eq_true (he342.trans he385.symm))) rfl rfl ?_
    refine wpo_nil ?_
    refine wpf_condf rfl rfl ?_
    refine wpf_skip ?_
    refine thn_n ?_
    refine wpf_seq ?_
    refine wpf_seq_region ?_
    refine wpo_move (v := .slice (some ⟨B356, 0, none⟩) cs.length cs.length) rfl rfl ?_
    refine wpo_move (v := .slice b cs.length e) e318 rfl ?_
    have k399 := ((((k367.grown0 hg374).grown0 hg381).grown0 hg390).grown0 hg397)
    have k400 := ((((k368.grown0 hg374).grown0 hg381).grown0 hg390).grown0 hg397)
    have k401 := (((k379.grown0 hg381).grown0 hg390).grown0 hg397)
    have k402 := ((((k366.grown0 hg374).grown0 hg381).grown0 hg390).grown0 hg397)
    refine wpo_call (vs := [.slice b cs.length e]) gf_42 (args_cons rfl args_nil) rfl (toCallS_c _ cs _ _ (SlAt.low hs hb398) (by omega)) ?_
    rintro _ w407 ⟨B403, rfl, hge404, k405, hg406⟩
    have hb408 := low0 hb398 hg406
    have hlB403 := Nat.le_trans hb398.size hge404
    have lt_B101_B403 := Nat.lt_of_lt_of_le (k399).lt hge404
    have lt_B243_B403 := Nat.lt_of_lt_of_le (k400).lt hge404
    have lt_B332_B403 := Nat.lt_of_lt_of_le (k401).lt hge404
    have lt_B356_B403 := Nat.lt_of_lt_of_le (k402).lt hge404
    have k409 := (k402.grown0 hg406)
    refine wpo_call (vs := [.slice (some ⟨B356, 0, none⟩) cs.length cs.length, .slice (some ⟨B403, 0, none⟩) cs.length cs.length]) gf_44 (args_cons rfl (args_cons rfl args_nil)) rfl (eqCallS_c _ cs _ _ (rows_sl wide_cl k409) (by first | omega | exact Nat.le_of_ble_eq_true rfl | (simp only [List.length_nil, List.length_cons, List.length_append, List.length_replicate]; omega)) cs _ _ (rows_sl wide_cl k405) (by first | omega | exact Nat.le_of_ble_eq_true rfl | (simp only [List.length_nil, List.length_cons, List.length_append, List.length_replicate]; omega))) ?_
    rintro _ w410 ⟨rfl, hg411⟩
    have hb412 := low0 hb408 hg411
    refine wpo_not (b' := false) (congrArg Value.bool (decide_eq_true rfl)) rfl rfl ?_
    refine wpo_nil ?_
    refine wpf_condf rfl rfl ?_
    refine wpf_skip ?_
    refine thn_n ?_
    refine wpf_seq_region ?_
    refine wpo_assign (v := .int .i64 1) rfl rfl ?_
    refine wpo_nil ?_
    refine wpf_seq_region ?_
    refine wpo_move (v := .slice (some ⟨B340, 0, none⟩) ys341.length ys341.length) rfl rfl ?_
    refine wpo_move (v := .int .i64 1) rfl rfl ?_
    have hlo413 : w.heap.size ≤ w337.heap.size := hb338.size
    refine wpo_call (vs := [.slice (some ⟨B340, 0, none⟩) ys341.length ys341.length, .int .i64 1]) gf_48 (args_cons rfl (args_cons rfl args_nil)) rfl (markThingS_c w337.heap.size 1 (by omega) B340 ys341 _ (k344.grown0 (grown_trans (grown_trans (grown_trans (grown_trans (grown_trans (grown_trans (grown_trans hg359 hg364) hg374) hg381) hg390) hg397) hg406) hg411)) (RowsS.low hRS346 (grown_trans (grown_trans (grown_trans (grown_trans (grown_trans (grown_trans (grown_trans hg359 hg364) hg374) hg381) hg390) hg397) hg406) hg411)) hge343 (by omega)) ?_
    rintro _ w418 ⟨m414, rfl, hm415, hm416, hK417⟩
    have hb419 := Keeps.grown hb412 hK417 (by omega)
    refine wpo_assign (v := .int .i64 m414) rfl rfl ?_
    refine wpo_nil ?_
    refine wpf_seq_region ?_
    refine wpo_move (v := .slice (some ⟨B356, 0, none⟩) cs.length cs.length) rfl rfl ?_
    refine wpo_move (v := .int .i64 m414) rfl rfl ?_
    have k423 := (Blk.keeps (k409.grown0 hg411) hK417 (Or.inr (by decide)))
    refine wpo_call (vs := [.slice (some ⟨B356, 0, none⟩) cs.length cs.length, .int .i64 m414]) gf_49 (args_cons rfl (args_cons rfl args_nil)) rfl (markCallS_c m414 (by omega) B356 cs.length cs _ (Own.rows wide_cl k423 (by first | omega | exact Nat.le_of_ble_eq_true rfl | (simp only [List.length_nil, List.length_cons, List.length_append, List.length_replicate]; omega))) (by first | omega | exact Nat.le_of_ble_eq_true rfl | (simp only [List.length_nil, List.length_cons, List.length_append, List.length_replicate]; omega))) ?_
    rintro _ w420 ⟨rfl, hO421, hg422⟩
    have hb424 := low1 hb419 hg422 (by omega)
    refine wpo_assign (v := .int .i64 (m414 + 5 * (cs.length : Int))) rfl rfl ?_
    refine wpo_nil ?_
    refine wpf_seq ?_
    refine wpf_seq_region_mid (fun f' w' => (f' 0 = .slice a ms.length c ∧ f' 1 = .slice b cs.length e ∧ f' 5 = .pointer (some ⟨B101, 0, none⟩) ∧ f' 6 = .bool false ∧ f' 8 = .slice (some ⟨B332, 0, none⟩) ((runLow (tabT ms) cs l).length) cap333 ∧ f' 11 = .slice a370 ((runLow (tabT ms) cs l).length) cap371 ∧ f' 69 = .bool (decide (m414 + 5 * (cs.length : Int) < 0))) ∧ w420.grownBy w' none) ?_ ?_
    ·
     refine wpo_move (v := .int .i64 (m414 + 5 * (cs.length : Int))) rfl rfl ?_
     refine wpo_lss (q := decide (m414 + 5 * (cs.length : Int) < 0)) rfl rfl rfl rfl ?_
     refine wpo_move (v := .bool (decide (m414 + 5 * (cs.length : Int) < 0))) rfl rfl ?_
     rcases bcases (decide (m414 + 5 * (cs.length : Int) < 0)) with h429 | h429
     ·
      have h430 := of_decide_eq_true h429
      iterate 4 refine wpo_pass rfl rfl rfl h429 rfl ?_
      refine wpo_pickt (v := .bool true) rfl h429 rfl rfl ?_
      exact wpo_nil ⟨⟨e317, e318, e319, e320, rfl, rfl, (congrArg Value.bool (by first | (simp only [h112, h124, h429, b0, b1, b2, b3, b4, b5, b6, b7, b8, b9]; done) | simp [h112, h124, h429]))⟩, (World.grownBy.refl _ _)⟩
     ·
      have h431 := of_decide_eq_false h429
      refine wpo_run rfl rfl rfl h429 ?_
      refine wpo_move (v := .slice a370 ((runLow (tabT ms) cs l).length) cap371) rfl rfl ?_
      refine wpo_run rfl rfl rfl h429 ?_
      refine wpo_move (v := .slice (some ⟨B332, 0, none⟩) ((runLow (tabT ms) cs l).length) cap333) rfl rfl ?_
      refine wpo_run rfl rfl rfl h429 ?_
      have k432 := ((Own.keeps ((k401.grown0 hg406).grown0 hg411) hK417 (Or.inr (by decide))).grown hg422 (some_ne (by omega)))
      refine wpo_call (vs := [.slice a370 ((runLow (tabT ms) cs l).length) cap371, .slice (some ⟨B332, 0, none⟩) ((runLow (tabT ms) cs l).length) cap333]) gf_44 (args_cons rfl (args_cons rfl args_nil)) rfl (eqCallS_c _ (runLow (tabT ms) cs l) _ _ (OwnN.sl wide_cl (by omega) (OwnN.grown_lt (OwnN.keeps (((((hO373.grown0 hg381).grown0 hg390).grown0 hg397).grown0 hg406).grown0 hg411) hK417 (by decide)) hg422 (by omega))) (by first | omega | exact Nat.le_of_ble_eq_true rfl | (simp only [List.length_nil, List.length_cons, List.length_append, List.length_replicate]; omega)) (runLow (tabT ms) cs l) _ _ (Own.sl wide_cl k432) (by first | omega | exact Nat.le_of_ble_eq_true rfl | (simp only [List.length_nil, List.length_cons, List.length_append, List.length_replicate]; omega))) ?_
      rintro _ w433 ⟨rfl, hg434⟩
      have hb435 := low0 hb424 hg434
      refine wpo_run rfl rfl rfl h429 ?_
      refine wpo_not (b' := false) (congrArg Value.bool (decide_eq_true rfl)) rfl rfl ?_
      refine wpo_pickf (v := .bool false) rfl h429 rfl rfl ?_
      exact wpo_nil ⟨⟨e317, e318, e319, e320, rfl, rfl, (congrArg Value.bool (by first | (simp only [h112, h124, h429, b0, b1, b2, b3, b4, b5, b6, b7, b8, b9]; done) | simp [h112, h124, h429]))⟩, hg434⟩
    ·
     rintro f436 w437 ⟨⟨e438, e439, e440, e441, e442, e443, e444⟩, hg445⟩
     have hb446 := low0 hb424 hg445
     have h447 : decide (m414 + 5 * (cs.length : Int) < 0) = false := decide_eq_false (by omega)
     have h448 := of_decide_eq_false h447
     refine wpf_condf e444 h447 ?_
     refine wpf_skip ?_
     refine thn_n ?_
     refine wpf_seq_region ?_
     refine wpo_assign (v := .int .i64 1) rfl rfl ?_
     refine wpo_nil ?_
     refine wpf_seq_region ?_
     refine wpo_move (v := .slice a370 ((runLow (tabT ms) cs l).length) cap371) e443 rfl ?_
     refine wpo_move (v := .int .i64 1) rfl rfl ?_
     have hO452 := ((OwnN.grown_lt (OwnN.keeps (((((hO373.grown0 hg381).grown0 hg390).grown0 hg397).grown0 hg406).grown0 hg411) hK417 (by decide)) hg422 (by omega)).grown0 hg445)
     have k453 := (((Blk.keeps ((k399.grown0 hg406).grown0 hg411) hK417 (Or.inr (by decide))).grown hg422 (some_ne (by omega))).grown0 hg445)
     have k454 := (((Blk.keeps ((k400.grown0 hg406).grown0 hg411) hK417 (Or.inr (by decide))).grown hg422 (some_ne (by omega))).grown0 hg445)
     have k455 := (((Own.keeps ((k401.grown0 hg406).grown0 hg411) hK417 (Or.inr (by decide))).grown hg422 (some_ne (by omega))).grown0 hg445)
     have k456 := (hO421.grown0 hg445)
     refine wpo_call (vs := [.slice a370 ((runLow (tabT ms) cs l).length) cap371, .int .i64 1]) gf_49 (args_cons rfl (args_cons rfl args_nil)) rfl (markCallS_n 1 (by omega) _ _ _ (runLow (tabT ms) cs l) _ hO452 (by omega)) ?_
     rintro _ w449 ⟨rfl, hO450, hg451⟩
     have hb457 := lowN hb446 hO452 hg451 (by omega)
     refine wpo_assign (v := .int .i64 (1 + 5 * ((runLow (tabT ms) cs l).length : Int))) rfl rfl ?_
     refine wpo_nil ?_
     refine wpf_seq_region ?_
     refine wpo_assign (v := .int .i64 1) rfl rfl ?_
     refine wpo_nil ?_
     refine wpf_seq_region ?_
     refine wpo_move (v := .slice a370 ((runLow (tabT ms) cs l).length) cap371) e443 rfl ?_
     refine wpo_move (v := .int .i64 1) rfl rfl ?_
     refine wpo_call (vs := [.slice a370 ((runLow (tabT ms) cs l).length) cap371, .int .i64 1]) gf_50 (args_cons rfl (args_cons rfl args_nil)) rfl (by have kk := heldCallS_n 1 (by omega) _ _ _ ((List.range (runLow (tabT ms) cs l).length).map (fun i : Nat => mkCl (1 + 5 * (i : Int)))) _ hO450 (by simp; omega) (fun k hk => marksC_get (by simpa using hk)); rw [List.length_map, List.length_range] at kk; exact kk) ?_
     rintro _ w458 ⟨rfl, hg459⟩
     have hb460 := low0 hb457 hg459
     refine wpo_assign (v := .int .i64 (1 + 5 * ((runLow (tabT ms) cs l).length : Int))) rfl rfl ?_
     refine wpo_nil ?_
     refine wpf_seq ?_
     refine wpf_seq_region ?_
     refine wpo_move (v := .int .i64 (1 + 5 * ((runLow (tabT ms) cs l).length : Int))) rfl rfl ?_
     refine wpo_lss (q := decide (1 + 5 * ((runLow (tabT ms) cs l).length : Int) < 0)) rfl rfl rfl rfl ?_
     refine wpo_nil ?_
     have h461 : decide (1 + 5 * ((runLow (tabT ms) cs l).length : Int) < 0) = false := decide_eq_false (by omega)
     have h462 := of_decide_eq_false h461
     refine wpf_condf rfl h461 ?_
     refine wpf_skip ?_
     refine thn_n ?_
     refine wpf_seq ?_
     refine wpf_seq_region ?_
     refine wpo_move (v := .int .i64 (1 + 5 * ((runLow (tabT ms) cs l).length : Int))) rfl rfl ?_
     refine wpo_move (v := .int .i64 (1 + 5 * ((runLow (tabT ms) cs l).length : Int))) rfl rfl ?_
     refine wpo_neq (q := false) rfl rfl (by simp) rfl ?_
     refine wpo_nil ?_
     refine wpf_condf rfl rfl ?_
     refine wpf_skip ?_
     refine thn_n ?_
     refine wpf_seq ?_
     refine wpf_drawI (m := 5) [[], [0], [], [0, 1, 2], [], [0, 1, 2, 3, 4], [0, 1, 2, 3, 4, 5], [0, 1, 2, 3, 4, 5, 6]] (fun S F w' => ∃ (B586 : Nat) (ys587 : List MTh) (B603 : Nat), w458.grownBy w' none ∧ F 0 = .slice a ms.length c ∧ F 1 = .slice b cs.length e ∧ F 5 = .pointer (some ⟨B101, 0, none⟩) ∧ F 6 = .bool false ∧ F 8 = .slice (some ⟨B332, 0, none⟩) ((runLow (tabT ms) cs l).length) cap333 ∧ F 11 = .slice a370 ((runLow (tabT ms) cs l).length) cap371 ∧ F 13 = .int .i64 (1 + 5 * ((runLow (tabT ms) cs l).length : Int)) ∧ F 14 = .int .i64 (1 + 5 * ((runLow (tabT ms) cs l).length : Int)) ∧ (S 0 = true → F 81 = .slice a ms.length c) ∧ (S 1 = true → F 82 = .slice (some ⟨B586, 0, none⟩) ys587.length ys587.length ∧ tabT ys587 = tabT ms ∧ TabLen ys587 ∧ ys587.length = ms.length ∧ TabAt w' (some ⟨B586, 0, none⟩) ys587) ∧ (S 2 = true → F 83 = .slice b cs.length e) ∧ (S 3 = true → F 84 = .slice (some ⟨B603, 0, none⟩) cs.length cs.length ∧ w.heap.size ≤ B603 ∧ Blk w' B603 76 (cs.flatMap Cl.cells).toArray ∧ B101 < B603 ∧ B243 < B603 ∧ B332 < B603 ∧ B356 < B603 ∧ w458.heap.size ≤ B603) ∧ (S 4 = true → F 85 = .agg #[.int .i64 l.s, .int .i64 l.v])) mixed_ (by kernel_rfl) ⟨0, [], 0, grown_drew _, e438, e439, e440, e441, e442, e443, rfl, rfl, fun h => not_begun h, fun h => not_begun h, fun h => not_begun h, fun h => not_begun h, fun h => not_begun h⟩ ?_ ?_
     ·
      refine preL_cons (fun S F w610 hS hbef hcl hI => ?_) ?_
      ·
       obtain ⟨B586, ys587, B603, hi611, e612, e613, e614, e615, e616, e617, e618, e619, c_0, c_1, c_2, c_3, c_4⟩ := hI
       have hb620 := low0 hb460 hi611
       refine wpo_move (v := .slice a ms.length c) e612 rfl ?_
       exact wpo_nil ⟨B586, ys587, B603, hi611, e612, e613, e614, e615, e616, e617, e618, e619, fun _ => rfl, fun h => undone 1 hS hcl rfl h, c_2, fun h => undone 3 hS hcl rfl h, c_4⟩
      refine preL_cons (fun S F w621 hS hbef hcl hI => ?_) ?_
      ·
       obtain ⟨B586, ys587, B603, hi622, e623, e624, e625, e626, e627, e628, e629, e630, c_0, c_1, c_2, c_3, c_4⟩ := hI
       have hb631 := low0 hb460 hi622
       obtain e632 := c_0 (ready_of 0 hbef rfl)
       refine wpo_call (vs := [.slice a ms.length c]) gf_38 (args_cons e632 args_nil) rfl (toThingS_d _ ms _ _ (TabAt.low ht hb631) hlen114 (by omega)) ?_
       rintro _ w641 ⟨B633, ys634, rfl, he635, hge636, k637, hX638, hRS639, hg640⟩
       have hb645 := low0 hb631 hg640
       have hT642 : TabAt w641 (some ⟨B633, 0, none⟩) ys634 := ⟨rows_sl wide_mth k637, fun m hm => (hX638 m hm).at⟩
       have hTl643 := TabLen.of he635 hlen114
       have hll644 := tabT_length he635
       exact wpo_nil ⟨B633, ys634, B603, (low0 hi622 hg640), e623, e624, e625, e626, e627, e628, e629, e630, c_0, fun _ => ⟨rfl, he635, hTl643, hll644, hT642⟩, c_2, fun h => undone 3 hS hcl rfl h, c_4⟩
      refine preL_cons (fun S F w646 hS hbef hcl hI => ?_) ?_
      ·
       obtain ⟨B586, ys587, B603, hi647, e648, e649, e650, e651, e652, e653, e654, e655, c_0, c_1, c_2, c_3, c_4⟩ := hI
       have hb656 := low0 hb460 hi647
       refine wpo_move (v := .slice b cs.length e) e649 rfl ?_
       exact wpo_nil ⟨B586, ys587, B603, hi647, e648, e649, e650, e651, e652, e653, e654, e655, c_0, c_1, fun _ => rfl, fun h => undone 3 hS hcl rfl h, c_4⟩
      refine preL_cons (fun S F w657 hS hbef hcl hI => ?_) ?_
      ·
       obtain ⟨B586, ys587, B603, hi658, e659, e660, e661, e662, e663, e664, e665, e666, c_0, c_1, c_2, c_3, c_4⟩ := hI
       have hb667 := low0 hb460 hi658
       obtain e668 := c_0 (ready_of 0 hbef rfl)
       obtain ⟨e669, he588, hTl596, hll597, hT595⟩ := c_1 (ready_of 1 hbef rfl)
       obtain e670 := c_2 (ready_of 2 hbef rfl)
       have k671 := (((Blk.typN k453 hO452 hg451 (by decide)).grown0 hg459).grown0 hi658)
       have k672 := (((Blk.ltN k454 hO452 hg451 (by omega)).grown0 hg459).grown0 hi658)
       have k673 := (((Own.ltN k455 hO452 hg451 (by omega)).grown0 hg459).grown0 hi658)
       have k674 := (((Own.ltN k456 hO452 hg451 (by omega)).grown0 hg459).grown0 hi658)
       refine wpo_call (vs := [.slice b cs.length e]) gf_42 (args_cons e670 args_nil) rfl (toCallS_c _ cs _ _ (SlAt.low hs hb667) (by omega)) ?_
       rintro _ w679 ⟨B675, rfl, hge676, k677, hg678⟩
       have hb680 := low0 hb667 hg678
       have hlB675 := Nat.le_trans hb667.size hge676
       have lt_B101_B675 := Nat.lt_of_lt_of_le (k671).lt hge676
       have lt_B243_B675 := Nat.lt_of_lt_of_le (k672).lt hge676
       have lt_B332_B675 := Nat.lt_of_lt_of_le (k673).lt hge676
       have lt_B356_B675 := Nat.lt_of_lt_of_le (k674).lt hge676
       exact wpo_nil ⟨B586, ys587, B675, (low0 hi658 hg678), e659, e660, e661, e662, e663, e664, e665, e666, c_0, fun h => let ⟨y681, y682, y683, y684, y685⟩ := c_1 h; ⟨y681, y682, y683, y684, (y685).low hg678⟩, c_2, fun _ => ⟨rfl, hlB675, k677, lt_B101_B675, lt_B243_B675, lt_B332_B675, lt_B356_B675, (Nat.le_trans hi658.size hge676)⟩, c_4⟩
      refine preL_cons (fun S F w686 hS hbef hcl hI => ?_) ?_
      ·
       obtain ⟨B586, ys587, B603, hi687, e688, e689, e690, e691, e692, e693, e694, e695, c_0, c_1, c_2, c_3, c_4⟩ := hI
       have hb696 := low0 hb460 hi687
       have k697 := (((Blk.typN k453 hO452 hg451 (by decide)).grown0 hg459).grown0 hi687)
       refine wpo_loadn (vs := [.int .i64 l.s, .int .i64 l.v]) rt_50 e690 rfl (k697.rangeL 0 2 rfl) rfl ?_
       exact wpo_nil ⟨B586, ys587, B603, hi687, e688, e689, e690, e691, e692, e693, e694, e695, c_0, c_1, c_2, c_3, fun _ => rfl⟩
      exact preL_nil
     ·
      intro S F w698 hall hI
      obtain ⟨B586, ys587, B603, hi699, e700, e701, e702, e703, e704, e705, e706, e707, c_0, c_1, c_2, c_3, c_4⟩ := hI
      have hb708 := low0 hb460 hi699
      obtain e709 := c_0 (hall 0 (by decide))
      obtain ⟨e710, he588, hTl596, hll597, hT595⟩ := c_1 (hall 1 (by decide))
      obtain e711 := c_2 (hall 2 (by decide))
      obtain ⟨e712, hlB603, kb_B603, lt_B101_B603, lt_B243_B603, lt_B332_B603, lt_B356_B603, hk_B603⟩ := c_3 (hall 3 (by decide))
      obtain e713 := c_4 (hall 4 (by decide))
      refine wpo_call (vs := [.agg #[.int .i64 l.s, .int .i64 l.v]]) gf_27 (args_cons e713 args_nil) rfl (toLabel_c l _) ?_
      rintro _ w714 ⟨rfl, hg715⟩
      have hb716 := low0 hb708 hg715
      have k717 := (kb_B603.grown0 hg715)
      have k718 := ((((Blk.typN k453 hO452 hg451 (by decide)).grown0 hg459).grown0 hi699).grown0 hg715)
      have k719 := ((((Blk.ltN k454 hO452 hg451 (by omega)).grown0 hg459).grown0 hi699).grown0 hg715)
      have k720 := ((((Own.ltN k455 hO452 hg451 (by omega)).grown0 hg459).grown0 hi699).grown0 hg715)
      have k721 := ((((Own.ltN k456 hO452 hg451 (by omega)).grown0 hg459).grown0 hi699).grown0 hg715)
      have ltw_B101_w714 := (k718).lt
      have ltw_B243_w714 := (k719).lt
      have ltw_B332_w714 := (k720).lt
      have ltw_B356_w714 := (k721).lt
      have ltw_B603_w714 := (k717).lt
      refine wpo_call (vs := [.slice (some ⟨B586, 0, none⟩) ys587.length ys587.length, .slice (some ⟨B603, 0, none⟩) cs.length cs.length, .agg #[.int .i64 l.s, .int .i64 l.v]]) gf_47 (args_cons e710 (args_cons e712 (args_cons rfl args_nil))) rfl (RunLow_c l _ ys587 _ _ (TabAt.low hT595 hg715) hTl596 (by omega) cs _ _ (rows_sl wide_cl k717) (by omega)) ?_
      rintro _ w727 ⟨a722, cap723, rfl, hO725, hg726⟩
      rw [he588] at hO725 ⊢
      have hb728 := low0 hb716 hg726
      have hrn729 := runLow_len (tabT ms) cs l
      have hlw730 : w.heap.size ≤ w714.heap.size := hb716.size
      refine wpo_assign (v := .slice a722 ((runLow (tabT ms) cs l).length) cap723) rfl rfl ?_
      refine wpo_nil ?_
      refine thn_n ?_
      refine wpf_seq ?_
      refine wpf_seq_region ?_
      refine wpo_move (v := .slice a722 ((runLow (tabT ms) cs l).length) cap723) rfl rfl ?_
      refine wpo_move (v := .slice (some ⟨B332, 0, none⟩) ((runLow (tabT ms) cs l).length) cap333) e704 rfl ?_
      have k731 := (k720.grown0 hg726)
      refine wpo_call (vs := [.slice a722 ((runLow (tabT ms) cs l).length) cap723, .slice (some ⟨B332, 0, none⟩) ((runLow (tabT ms) cs l).length) cap333]) gf_44 (args_cons rfl (args_cons rfl args_nil)) rfl (eqCallS_c _ (runLow (tabT ms) cs l) _ _ (OwnN.sl wide_cl (by omega) hO725) (by first | omega | exact Nat.le_of_ble_eq_true rfl | (simp only [List.length_nil, List.length_cons, List.length_append, List.length_replicate]; omega)) (runLow (tabT ms) cs l) _ _ (Own.sl wide_cl k731) (by first | omega | exact Nat.le_of_ble_eq_true rfl | (simp only [List.length_nil, List.length_cons, List.length_append, List.length_replicate]; omega))) ?_
      rintro _ w732 ⟨rfl, hg733⟩
      have hb734 := low0 hb728 hg733
      refine wpo_not (b' := false) (congrArg Value.bool (decide_eq_true rfl)) rfl rfl ?_
      refine wpo_nil ?_
      refine wpf_condf rfl rfl ?_
      refine wpf_skip ?_
      refine thn_n ?_
      refine wpf_seq_region ?_
      refine wpo_assign (v := .int .i64 1) rfl rfl ?_
      refine wpo_nil ?_
      refine wpf_seq_region ?_
      refine wpo_move (v := .slice a370 ((runLow (tabT ms) cs l).length) cap371) e705 rfl ?_
      refine wpo_move (v := .int .i64 1) rfl rfl ?_
      refine wpo_call (vs := [.slice a370 ((runLow (tabT ms) cs l).length) cap371, .int .i64 1]) gf_50 (args_cons rfl (args_cons rfl args_nil)) rfl (by have kk := heldCallS_n 1 (by omega) _ _ _ ((List.range (runLow (tabT ms) cs l).length).map (fun i : Nat => mkCl (1 + 5 * (i : Int)))) _ (((((hO450.grown0 hg459).grown0 hi699).grown0 hg715).grown0 hg726).grown0 hg733) (by simp; omega) (fun k hk => marksC_get (by simpa using hk)); rw [List.length_map, List.length_range] at kk; exact kk) ?_
      rintro _ w735 ⟨rfl, hg736⟩
      have hb737 := low0 hb734 hg736
      refine wpo_assign (v := .int .i64 (1 + 5 * ((runLow (tabT ms) cs l).length : Int))) rfl rfl ?_
      refine wpo_nil ?_
      refine wpf_seq ?_
      refine wpf_seq_region ?_
      refine wpo_move (v := .int .i64 (1 + 5 * ((runLow (tabT ms) cs l).length : Int))) rfl rfl ?_
      refine wpo_lss (q := decide (1 + 5 * ((runLow (tabT ms) cs l).length : Int) < 0)) rfl rfl rfl rfl ?_
      refine wpo_nil ?_
      refine wpf_condf rfl h461 ?_
      refine wpf_skip ?_
      refine thn_n ?_
      refine wpf_seq ?_
      refine wpf_seq_region ?_
      refine wpo_move (v := .int .i64 (1 + 5 * ((runLow (tabT ms) cs l).length : Int))) rfl rfl ?_
      refine wpo_move (v := .int .i64 (1 + 5 * ((runLow (tabT ms) cs l).length : Int))) e706 rfl ?_
      refine wpo_neq (q := false) rfl rfl (by simp) rfl ?_
      refine wpo_nil ?_
      refine wpf_condf rfl rfl ?_
      refine wpf_skip ?_
      refine thn_n ?_
      refine wpf_seq_region ?_
      refine wpo_assign (v := .bool true) rfl rfl ?_
      refine wpo_nil ?_
      refine wpf_ret ?_
      refine ⟨.bool true, res1 rfl rfl, ?_, hb737⟩
      rfl
end Go.Proofs.Ytlkmdoebmklbbaa
