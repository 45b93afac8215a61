/- Laws and walks: my templates, and what a program of mine (gen.py) printed out of the functions; only what the row reaches. -/
import Derived.Test.YtldnkinaedgnpaaVB5
section
namespace Go.Dw.J
open Go.RowKit Go.Dw Go.Proofs
set_option linter.unusedSectionVars false
set_option maxRecDepth 100000
set_option maxHeartbeats 4000000
set_option linter.unusedSimpArgs false
set_option linter.unusedVariables false
section
variable [Comp]
theorem sViewOf_c (l : Lab) (w : World) (ms : List MTh) (a : Option Addr) (c : Nat) (hM : TabAt w a ms) (hlen : TabLen ms) (hn : ms.length ≤ 1048576) : CallsR Try.prog 14 #[.slice a ms.length c, .agg #[.int .i64 l.s, .int .i64 l.v]] w (ViewR ms l w) := by
  refine calls_of_wpf (n := 17) Try.func14 rfl Try.ntmps14 rfl ?_
  refine wpf_seq_region ?_
  refine wpo_box (v := .agg #[.int .i64 l.s, .int .i64 l.v]) (cs := #[.int .i64 l.s, .int .i64 l.v]) rfl rfl rfl ?_
  intro bL w1 hN1
  refine wpo_assign (v := .slice none 0 0) rfl rfl (wpo_nil ?_)
  refine wpf_seq (wpf_seq_region ?_)
  refine wpo_move (v := .slice a ms.length c) rfl rfl ?_
  refine wpo_call (vs := [.slice a ms.length c]) vgf_15 (args_cons rfl args_nil) rfl (sTableOk_c _ ms a c (hM.low hN1.grw) hlen hn) ?_
  rintro _ w2 ⟨rfl, hg2⟩
  have hgw2 := grown_trans hN1.grw hg2
  have hL2 := hN1.blk.grown0 hg2
  refine wpo_not (b' := !tableOk (tabT ms)) rfl rfl rfl ?_
  refine wpo_move (v := .bool (!tableOk (tabT ms))) rfl rfl ?_
  have none_ : ∀ (F : Fr) (W B : World) (b : Nat), (tableOk (tabT ms) && labelOk l) = false → w.grownBy W none → NewB W B b 35 (([] : List MTh).flatMap MTh.cells).toArray → F 4 = .slice (some ⟨b, 0, none⟩) 0 0 → ∃ v, resV Try.prog Try.f14 F B v ∧ ViewR ms l w v B := fun F W B b h hg hN h4 =>
    ⟨_, res1 rfl h4, [], some ⟨b, 0, none⟩, 0, rfl, by unfold viewTab; rw [h]; rfl, ⟨fun k x hk => by simp at hk, fun m hm => by simp at hm⟩, (fun _ => rfl), grown_trans hg hN.grw⟩
  cases h1 : tableOk (tabT ms) with
  | false =>
    iterate 3 refine wpo_pass rfl rfl rfl rfl rfl ?_
    refine wpo_pickt (v := .bool true) rfl rfl rfl rfl (wpo_nil (wpf_condt rfl rfl ?_))
    refine wpf_seq_region ?_
    refine wpo_buildSlice (ps := []) (e := 35) (cs := (([] : List MTh).flatMap MTh.cells).toArray) parts_nil (fun _ => by kernel_rfl) rfl ?_
    intro b w3 hN
    refine wpo_assign (v := .slice (some ⟨b, 0, none⟩) 0 0) rfl rfl (wpo_nil (wpf_ret ?_))
    exact none_ _ _ _ b (by rw [h1]; rfl) hgw2 hN rfl
  | true =>
    refine wpo_run rfl rfl rfl rfl ?_
    refine wpo_loadn (vs := [.int .i64 l.s, .int .i64 l.v]) rt_25 rfl rfl (hL2.rangeL 0 2 rfl) rfl ?_
    refine wpo_run rfl rfl rfl rfl ?_
    refine wpo_call (vs := [.agg #[.int .i64 l.s, .int .i64 l.v]]) vgf_16 (args_cons rfl args_nil) rfl (sLabelOk_c l _) ?_
    rintro _ w4 ⟨rfl, hg4⟩
    have hL4 := hL2.grown0 hg4
    have hgw4 := grown_trans hgw2 hg4
    refine wpo_run rfl rfl rfl rfl ?_
    refine wpo_not (b' := !labelOk l) rfl rfl rfl ?_
    refine wpo_pickf (v := .bool (!labelOk l)) rfl rfl rfl rfl (wpo_nil ?_)
    cases h2 : labelOk l with
    | false =>
      refine wpf_condt rfl rfl ?_
      refine wpf_seq_region ?_
      refine wpo_buildSlice (ps := []) (e := 35) (cs := (([] : List MTh).flatMap MTh.cells).toArray) parts_nil (fun _ => by kernel_rfl) rfl ?_
      intro b w3 hN
      refine wpo_assign (v := .slice (some ⟨b, 0, none⟩) 0 0) rfl rfl (wpo_nil (wpf_ret ?_))
      exact none_ _ _ _ b (by rw [h1, h2]; rfl) hgw4 hN rfl
    | true =>
      refine wpf_condf rfl rfl (wpf_skip ?_)
      refine wpf_seq_region ?_
      refine wpo_move (v := .slice a ms.length c) rfl rfl ?_
      refine wpo_loadn (vs := [.int .i64 l.s, .int .i64 l.v]) rt_25 rfl rfl (hL4.rangeL 0 2 rfl) rfl ?_
      refine wpo_call (vs := [.slice a ms.length c, .agg #[.int .i64 l.s, .int .i64 l.v]]) vgf_44 (args_cons rfl (args_cons rfl args_nil)) rfl (l13Of_c l _ ms a c (hM.low hgw4) hlen hn h1 h2) ?_
      rintro _ w5 ⟨us, a', c', rfl, h3, h4, h5, h6⟩
      refine wpo_assign (v := .slice a' us.length c') rfl rfl (wpo_nil (wpf_ret ?_))
      exact ⟨_, res1 rfl rfl, us, a', c', rfl, by rw [h3]; unfold viewTab; rw [h1, h2]; rfl, h4, h5, grown_trans hgw4 h6⟩
end
end Go.Dw.J
end
section
namespace Go.Dw.J
open Go.RowKit Go.Dw Go.Proofs
set_option linter.unusedSectionVars false
set_option linter.unusedSimpArgs false
set_option linter.unusedVariables false
section
variable {ms us : List MTh} {l : Lab}
theorem viewTab_ok {ts : List Th} (h1 : tableOk ts = true) (h2 : labelOk l = true) : viewTab ts l = ts.map (viewTh · l) := by unfold viewTab; rw [h1, h2]; rfl
theorem viewTab_at (he : tabT us = viewTab (tabT ms) l) (h1 : tableOk (tabT ms) = true) (h2 : labelOk l = true) {i : Nat} (hi : i < ms.length) : (mAt us i).t = viewTh (mAt ms i).t l := by
  rw [mAt_t, mAt_t, he, viewTab_ok h1 h2, List.getD_eq_getElem?_getD, List.getElem?_map, List.getD_eq_getElem?_getD, List.getElem?_eq_getElem (by rw [tabT_len]; exact hi)]
  rfl
theorem viewTab_eqlen (he : tabT us = viewTab (tabT ms) l) (h1 : tableOk (tabT ms) = true) (h2 : labelOk l = true) : us.length = ms.length := by
  have := congrArg List.length he
  rwa [viewTab_ok h1 h2, List.length_map, tabT_len, tabT_len] at this
theorem viewTab_le (he : tabT us = viewTab (tabT ms) l) : us.length ≤ ms.length := by
  have := congrArg List.length he
  rw [tabT_len] at this
  unfold viewTab at this
  split at this
  · rw [List.length_map, tabT_len] at this; omega
  · have h0 : us.length = 0 := this
    omega
theorem viewTh_len {t : Th} (h : t.slots.length ≤ 1048576 ∧ t.queue.length ≤ 1048576) : (viewTh t l).slots.length ≤ 1048576 ∧ (viewTh t l).queue.length ≤ 1048576 := by
  unfold viewTh
  split
  · exact h
  · unfold thingNew
    split
    · unfold newTh
      refine ⟨?_, by simp⟩
      show (if has4 t.kind = true then zeros4 else []).length ≤ _
      split <;> decide
    · decide
theorem viewTab_lens (he : tabT us = viewTab (tabT ms) l) (hl : TabLen ms) : TabLen us := fun m hm => by
  have h1 : m.t ∈ tabT us := List.mem_map.2 ⟨m, hm, rfl⟩
  rw [he] at h1
  unfold viewTab at h1
  split at h1
  · obtain ⟨t, ht, e⟩ := List.mem_map.1 h1
    obtain ⟨q, hq, rfl⟩ := List.mem_map.1 ht
    rw [← e]
    exact viewTh_len (hl q hq)
  · cases h1
theorem ite_yy {c : Prop} [Decidable c] {a b : Bool} (h1 : a = true) (h2 : b = true) : (if c then a else b) = true := by split <;> assumption
theorem newOk_of {t : Th} (h : thingOk t = true) : newOk t.kind t.lab t.to = true := by
  obtain ⟨h1, h2, _, _, _, _, h7⟩ := thingOk_parts h
  unfold newOk thingOk newTh
  simp only [Bool.and_eq_true]
  refine ⟨⟨⟨⟨⟨⟨h1, h2⟩, ?_⟩, ?_⟩, ?_⟩, ?_⟩, h7⟩
  · exact ite_yy rfl rfl
  · exact ite_yy rfl (ite_yy rfl rfl)
  · unfold slotsOk has4
    by_cases hk : t.kind = 2 ∨ t.kind = 3
    · have h4 : (decide (t.kind = 2) || decide (t.kind = 3)) = true := by simpa using hk
      simp only [if_pos hk, h4, if_true]; decide
    · have h4 : (decide (t.kind = 2) || decide (t.kind = 3)) = false := by simpa using hk
      simp only [if_neg hk, h4]; rfl
  · exact ite_yy rfl rfl
theorem blank_ok (he : tabT us = viewTab (tabT ms) l) (h1 : tableOk (tabT ms) = true) (h2 : labelOk l = true) {i : Nat} (hi : i < ms.length) : thingOk (mAt us i).t = true := by
  have ht := tab_thing h1 hi
  rw [viewTab_at he h1 h2 hi]
  unfold viewTh
  split
  · exact ht
  · unfold thingNew; rw [if_pos (newOk_of ht)]; exact newOk_of ht
theorem blank_hi (he : tabT us = viewTab (tabT ms) l) (h1 : tableOk (tabT ms) = true) (h2 : labelOk l = true) {i : Nat} (hi : i < ms.length) (hv : viewHigh (tabT ms) ((i : Int) + 1) l = true) : (mAt us i).t.num = 0 ∧ (mAt us i).t.ve = 0 ∧ (mAt us i).t.queue.length = 0 := by
  rw [← viewHigh_i] at hv
  simp only [Bool.and_eq_true, Bool.not_eq_true'] at hv
  have e : ((i : Int) + 1 - 1).toNat = i := by omega
  rw [e] at hv
  rw [viewTab_at he h1 h2 hi]
  unfold viewTh
  rw [if_neg (by rw [hv.2]; simp)]
  unfold thingNew
  rw [if_pos (newOk_of (tab_thing h1 hi))]
  exact ⟨rfl, rfl, rfl⟩
theorem blank_no (he : tabT us = viewTab (tabT ms) l) (h1 : tableOk (tabT ms) = true) (h2 : labelOk l = true) {i : Nat} (hi : i < ms.length)
    (h : ((!thingOk (mAt us i).t) || (viewHigh (tabT ms) ((i : Int) + 1) l && (((!(decide ((mAt us i).t.num = 0))) || (!(decide ((mAt us i).t.ve = 0)))) || (decide (0 < ((mAt us i).t.queue.length : Int)))))) = true) : False := by
  rw [blank_ok he h1 h2 hi, Bool.not_true, Bool.false_or, Bool.and_eq_true] at h
  obtain ⟨e1, e2, e3⟩ := blank_hi he h1 h2 hi h.1
  rw [e1, e2, e3] at h
  simp at h
end
theorem RowO.typB {TR TI lo B : Nat} {w w' : World} {m : MTh} {U : TypeId} {cs : Array Value} (h : RowO TR TI lo w m) (hg : w.grownBy w' (some B)) (k : Blk w B U cs) (h1 : TR ≠ U) (h2 : TI ≠ U) : RowO TR TI lo w' m := ⟨h.s.typB hg k h1, h.q.typB hg k h2⟩
section
variable [Comp]
end
end Go.Dw.J
end
section
namespace Go.Dw.J
open Go.RowKit Go.Dw Go.Proofs
set_option linter.unusedSectionVars false
set_option maxRecDepth 100000
set_option maxHeartbeats 4000000
set_option linter.unusedSimpArgs false
set_option linter.unusedVariables false
theorem gf_11 : goFn Try.prog 11 = true := by kernel_rfl
theorem gf_12 : goFn Try.prog 12 = true := by kernel_rfl
theorem gf_13 : goFn Try.prog 13 = true := by kernel_rfl
theorem gf_14 : goFn Try.prog 14 = true := by kernel_rfl
theorem gf_21 : goFn Try.prog 21 = true := by kernel_rfl
theorem law_FnViewBlank [Comp] [ViewRule] (bs : List Int) (a : Option Addr) (c : Nat) (w : World) (hs0 : SlAt w a 1 (bs.map bcell)) (hb : ∀ b ∈ bs, 0 ≤ b ∧ b ≤ 255) (hn : bs.length ≤ 9223372036854775807) (hc : bs.length ≤ c) (hKB : ViewRule.base ≤ w.heap.size) : Wpf Try.prog 88 (endQ Try.prog Try.f4 (fun v w' => v = .bool true ∧ w.grownBy w' none)) (Try.f4.body.getD .skip) (f0 #[.slice a bs.length c]) w := by
 have hb0 := World.grownBy.refl w none
 have hs := SlAt.lt wide_b (by omega) hs0
 refine wpf_seq_region ?_
 refine wpo_assign (v := .bool false) rfl rfl ?_
 refine wpo_nil ?_
 refine wpf_seq ?_
 refine wpf_seq_region ?_
 refine wpo_move (v := .slice a bs.length c) rfl rfl ?_
 refine wpo_len (by kernel_rfl) rfl rfl ?_
 refine wpo_gtr (q := decide (1048576 < (bs.length : Int))) rfl rfl rfl rfl ?_
 refine wpo_nil ?_
 refine wpf_cond rfl (fun h101 => ?_) (fun h101 => ?_)
 ·
  have h102 := of_decide_eq_true h101
  refine wpf_seq_region ?_
  refine wpo_assign (v := .bool true) rfl rfl ?_
  refine wpo_nil ?_
  refine wpf_ret ?_
  refine thn_r ?_
  refine ⟨.bool true, res1 rfl rfl, ?_, hb0⟩
  rfl
 ·
  have h103 := of_decide_eq_false h101
  refine wpf_skip ?_
  refine thn_n ?_
  refine wpf_seq_region ?_
  refine wpo_move (v := .slice a bs.length c) rfl rfl ?_
  refine wpo_call (vs := [.slice a bs.length c]) gf_11 (args_cons rfl args_nil) rfl (DrawViewOf_c bs a c _ (SlAt.low hs0 hb0) hb (by omega) (by omega)) ?_
  rintro _ w111 ⟨B104, cap105, ms106, l112, rfl, hTG107, hTS108, hTn109, hd113, hg110⟩
  have hb114 := low0 hb0 hg110
  have hTl115 := hTS108.len
  refine wpo_move (v := .tuple #[.slice (some ⟨B104, 0, none⟩) ms106.length cap105, .agg #[.int .i64 l112.s, .int .i64 l112.v]]) rfl rfl ?_
  refine wpo_extract (v := .slice (some ⟨B104, 0, none⟩) ms106.length cap105) rfl rfl rfl ?_
  refine wpo_extract (v := .agg #[.int .i64 l112.s, .int .i64 l112.v]) rfl rfl rfl ?_
  refine wpo_alloc (cs := #[.int .i64 0, .int .i64 0]) zt_25 rfl rfl ?_
  intro B116 w117 hN118
  have hlB116 := hN_ge hN118 hb114
  have hb119 := low0 hb114 hN118.grw
  refine wpo_assign (v := .slice (some ⟨B104, 0, none⟩) ms106.length cap105) rfl rfl ?_
  refine wpo_storen (vs := [.int .i64 l112.s, .int .i64 l112.v]) (cs' := #[.int .i64 l112.s, .int .i64 l112.v]) rt_25 rfl rfl rfl (by simp [Value.oneCell']) hN118.blk (Nat.le_of_ble_eq_true rfl) rfl ?_
  intro w120 hS121
  have hb122 := low1 hb119 hS121.grw (by omega)
  refine wpo_nil ?_
  refine wpf_seq_region ?_
  refine wpo_move (v := .slice (some ⟨B104, 0, none⟩) ms106.length cap105) rfl rfl ?_
  refine wpo_loadn (vs := [.int .i64 l112.s, .int .i64 l112.v]) rt_25 rfl rfl (hS121.blk.rangeL 0 2 rfl) rfl ?_
  refine wpo_call (vs := [.slice (some ⟨B104, 0, none⟩) ms106.length cap105, .agg #[.int .i64 l112.s, .int .i64 l112.v]]) gf_12 (args_cons rfl (args_cons rfl args_nil)) rfl (ViewRule.rule _ ms106 _ _ l112 (Nat.le_trans hKB hb122.size) (TabG.at (TabG.low hTG107 (low1 hN118.grw hS121.grw (Nat.le_trans ((World.grownBy.refl _ none)).size hN118.ge)))) hTl115 (by omega)) ?_
  rintro _ w130 ⟨us123, a124, cap125, rfl, he126, hT127, hnc128, hg129⟩
  have hb133 := low0 hb122 hg129
  have hTl131 := viewTab_lens he126 hTl115
  have hll132 := viewTab_le he126
  refine wpo_assign (v := .slice a124 us123.length cap125) rfl rfl ?_
  refine wpo_nil ?_
  refine wpf_seq ?_
  refine wpf_seq_region_mid (fun f' w' => (f' 2 = .bool false ∧ f' 3 = .slice (some ⟨B104, 0, none⟩) ms106.length cap105 ∧ f' 4 = .pointer (some ⟨B116, 0, none⟩) ∧ f' 5 = .slice a124 us123.length cap125 ∧ f' 33 = .bool ((false || (!tableOk (tabT ms106))) || (!labelOk l112))) ∧ w130.grownBy w' none) ?_ ?_
  ·
   refine wpo_move (v := .slice a124 us123.length cap125) rfl rfl ?_
   refine wpo_move (v := .slice (some ⟨B104, 0, none⟩) ms106.length cap105) rfl rfl ?_
   have k174 := (hS121.blk.grown0 hg129)
   refine wpo_loadn (vs := [.int .i64 l112.s, .int .i64 l112.v]) rt_25 rfl rfl (k174.rangeL 0 2 rfl) rfl ?_
   refine wpo_call (vs := [.slice (some ⟨B104, 0, none⟩) ms106.length cap105, .agg #[.int .i64 l112.s, .int .i64 l112.v]]) gf_14 (args_cons rfl (args_cons rfl args_nil)) rfl (sViewOf_c l112 _ ms106 _ _ (TabG.at (TabG.low hTG107 (low0 (low1 hN118.grw hS121.grw (Nat.le_trans ((World.grownBy.refl _ none)).size hN118.ge)) hg129))) hTl115 (by omega)) ?_
   rintro _ w182 ⟨us175, a176, cap177, rfl, he178, hT179, hnc180, hg181⟩
   have hb185 := low0 hb133 hg181
   have hTl183 := viewTab_lens he178 hTl115
   have hll184 := viewTab_le he178
   refine wpo_call (vs := [.slice a124 us123.length cap125, .slice a176 us175.length cap177]) gf_13 (args_cons rfl (args_cons rfl args_nil)) rfl (ldTable_c _ us123 us175 _ _ _ _ (TabAt.low hT127 hg181) hT179 hTl131 hTl183 (by omega) (by omega)) ?_
   rintro _ w186 ⟨rfl, hg187⟩
   have hb188 := low0 hb185 hg187
   refine wpo_not (b' := false) (congrArg Value.bool (decide_eq_true (he126.trans he178.symm))) rfl rfl ?_
   refine wpo_move (v := .bool false) rfl rfl ?_
   refine wpo_run rfl rfl rfl rfl ?_
   refine wpo_move (v := .slice (some ⟨B104, 0, none⟩) ms106.length cap105) rfl rfl ?_
   refine wpo_run rfl rfl rfl rfl ?_
   refine wpo_call (vs := [.slice (some ⟨B104, 0, none⟩) ms106.length cap105]) gf_15 (args_cons rfl args_nil) rfl (sTableOk_c  _ ms106 _ _ (TabG.at (TabG.low hTG107 (low0 (low0 (low0 (low1 hN118.grw hS121.grw (Nat.le_trans ((World.grownBy.refl _ none)).size hN118.ge)) hg129) hg181) hg187))) hTl115 (by omega)) ?_
   rintro _ w189 ⟨rfl, hg190⟩
   have hb191 := low0 hb188 hg190
   refine wpo_run rfl rfl rfl rfl ?_
   refine wpo_not (b' := !tableOk (tabT ms106)) rfl rfl rfl ?_
   refine wpo_pickf (v := .bool (!tableOk (tabT ms106))) rfl rfl rfl rfl ?_
   refine wpo_move (v := .bool (!tableOk (tabT ms106))) rfl rfl ?_
   rcases bcases (!tableOk (tabT ms106)) with h192 | h192
   ·
    have h193 := nt_t h192
    iterate 3 refine wpo_pass rfl rfl rfl h192 rfl ?_
    refine wpo_pickt (v := .bool true) rfl h192 rfl rfl ?_
    exact wpo_nil ⟨⟨rfl, rfl, rfl, rfl, (congrArg Value.bool (by first | (simp only [h101, h192, h193, b0, b1, b2, b3, b4, b5, b6, b7, b8, b9]; done) | simp [h101, h192, h193]))⟩, (grown_trans (grown_trans hg181 hg187) hg190)⟩
   ·
    have h194 := nt_f h192
    refine wpo_run rfl rfl rfl h192 ?_
    have k195 := (((k174.grown0 hg181).grown0 hg187).grown0 hg190)
    refine wpo_loadn (vs := [.int .i64 l112.s, .int .i64 l112.v]) rt_25 rfl rfl (k195.rangeL 0 2 rfl) rfl ?_
    refine wpo_run rfl rfl rfl h192 ?_
    refine wpo_call (vs := [.agg #[.int .i64 l112.s, .int .i64 l112.v]]) gf_16 (args_cons rfl args_nil) rfl (sLabelOk_c l112 _) ?_
    rintro _ w196 ⟨rfl, hg197⟩
    have hb198 := low0 hb191 hg197
    refine wpo_run rfl rfl rfl h192 ?_
    refine wpo_not (b' := !labelOk l112) rfl rfl rfl ?_
    refine wpo_pickf (v := .bool (!labelOk l112)) rfl h192 rfl rfl ?_
    exact wpo_nil ⟨⟨rfl, rfl, rfl, rfl, (congrArg Value.bool (by first | (simp only [h101, h192, h194, b0, b1, b2, b3, b4, b5, b6, b7, b8, b9]; done) | simp [h101, h192, h194]))⟩, (grown_trans (grown_trans (grown_trans hg181 hg187) hg190) hg197)⟩
  ·
   rintro f199 w200 ⟨⟨e201, e202, e203, e204, e205⟩, hg206⟩
   have hb207 := low0 hb133 hg206
   refine wpf_cond e205 (fun h208 => ?_) (fun h208 => ?_)
   ·
    refine wpf_seq_region ?_
    refine wpo_move (v := .slice a124 us123.length cap125) e204 rfl ?_
    refine wpo_move (v := .slice (some ⟨B104, 0, none⟩) ms106.length cap105) e202 rfl ?_
    have k209 := ((hS121.blk.grown0 hg129).grown0 hg206)
    refine wpo_loadn (vs := [.int .i64 l112.s, .int .i64 l112.v]) rt_25 e203 rfl (k209.rangeL 0 2 rfl) rfl ?_
    refine wpo_call (vs := [.slice (some ⟨B104, 0, none⟩) ms106.length cap105, .agg #[.int .i64 l112.s, .int .i64 l112.v]]) gf_14 (args_cons rfl (args_cons rfl args_nil)) rfl (sViewOf_c l112 _ ms106 _ _ (TabG.at (TabG.low hTG107 (low0 (low0 (low1 hN118.grw hS121.grw (Nat.le_trans ((World.grownBy.refl _ none)).size hN118.ge)) hg129) hg206))) hTl115 (by omega)) ?_
    rintro _ w217 ⟨us210, a211, cap212, rfl, he213, hT214, hnc215, hg216⟩
    have hb220 := low0 hb207 hg216
    have hTl218 := viewTab_lens he213 hTl115
    have hll219 := viewTab_le he213
    refine wpo_call (vs := [.slice a124 us123.length cap125, .slice a211 us210.length cap212]) gf_13 (args_cons rfl (args_cons rfl args_nil)) rfl (ldTable_c _ us123 us210 _ _ _ _ (TabAt.low hT127 (grown_trans hg206 hg216)) hT214 hTl131 hTl218 (by omega) (by omega)) ?_
    rintro _ w221 ⟨rfl, hg222⟩
    have hb223 := low0 hb220 hg222
    refine wpo_assign (v := .bool true) (congrArg Value.bool (decide_eq_true (he126.trans he213.symm))) rfl ?_
    refine wpo_nil ?_
    refine wpf_ret ?_
    refine thn_r ?_
    refine ⟨.bool true, res1 rfl rfl, ?_, hb223⟩
    rfl
   ·
    have h224 := or_l h208
    have h225 := or_l h224
    have h226 := or_r h224
    have h227 := nt_f h226
    have h228 := or_r h208
    have h229 := nt_f h228
    refine wpf_skip ?_
    refine thn_n ?_
    refine wpf_seq ?_
    refine wpf_seq_region ?_
    refine wpo_assign (v := .int .i64 0) rfl rfl ?_
    refine wpo_nil ?_
    refine wpf_block ?_
    have k231 := ((hS121.blk.grown0 hg129).grown0 hg206)
    refine wpf_loopN (fun mm f' w' => ∃ (i : Nat), mm = ms106.length - i ∧ i ≤ ms106.length ∧ w200.grownBy w' none ∧ f' 6 = .int .i64 (i : Int) ∧ f' 3 = .slice (some ⟨B104, 0, none⟩) ms106.length cap105 ∧ f' 4 = .pointer (some ⟨B116, 0, none⟩) ∧ f' 5 = .slice a124 us123.length cap125 ∧ w.grownBy w' none ∧ Blk w' B116 25 #[.int .i64 l112.s, .int .i64 l112.v]) (ms106.length - 0) ⟨0, rfl, (Nat.zero_le _), (World.grownBy.refl _ none), rfl, e202, e203, e204, hb207, k231⟩ ?_
    rintro mm f232 w233 ⟨i, hm235, hi, hgl230, e236, e237, e238, e239, hb234, k240⟩
    have heq := viewTab_eqlen he126 h227 h229
    refine wpf_seq ?_
    refine wpf_seq_region ?_
    refine wpo_move (v := .int .i64 (i : Int)) e236 rfl ?_
    refine wpo_move (v := .slice a124 us123.length cap125) e239 rfl ?_
    refine wpo_len (by kernel_rfl) rfl rfl ?_
    refine wpo_lss (q := decide ((i : Int) < (us123.length : Int))) rfl rfl rfl rfl ?_
    refine wpo_nil ?_
    refine wpf_cond rfl (fun h241 => ?_) (fun h241 => ?_)
    ·
     have h242 := of_decide_eq_true h241
     refine wpf_skip ?_
     refine thn_n ?_
     refine wpf_seq ?_
     refine wpf_block ?_
     refine wpf_seq_region_mid (fun f' w' => (f' 3 = .slice (some ⟨B104, 0, none⟩) ms106.length cap105 ∧ f' 4 = .pointer (some ⟨B116, 0, none⟩) ∧ f' 5 = .slice a124 us123.length cap125 ∧ f' 6 = .int .i64 (i : Int) ∧ f' 82 = .bool ((!thingOk (mAt us123 i).t) || (viewHigh (tabT ms106) ((i : Int) + 1) l112 && (((!(decide ((mAt us123 i).t.num = 0))) || (!(decide ((mAt us123 i).t.ve = 0)))) || (decide (0 < ((mAt us123 i).t.queue.length : Int))))))) ∧ w233.grownBy w' none) ?_ ?_
     ·
      refine wpo_move (v := .slice a124 us123.length cap125) e239 rfl ?_
      refine wpo_move (v := .int .i64 (i : Int)) e236 rfl ?_
      obtain ⟨b273, q274, o275, ha276, ho277, hr278⟩ := SlAt.at (TabAt.low hT127 (grown_trans hg206 hgl230)).1 (map_get (mAt_get (show i < us123.length by omega)))
      have hle279 := TabLen.at hTl131 (mAt_get (show i < us123.length by omega))
      refine wpo_indexE es_23 rfl rfl ha276 ho277 (by omega) (by omega) rfl ?_
      refine wpo_loadn (vs := [.int .i64 ((mAt us123 i).t.kind), .int .i64 ((mAt us123 i).t.lab.s), .int .i64 ((mAt us123 i).t.lab.v), .int .i64 ((mAt us123 i).t.ve), .int .i64 ((mAt us123 i).t.num), .slice ((mAt us123 i).sa) ((mAt us123 i).t.slots.length) ((mAt us123 i).sc), .slice ((mAt us123 i).qa) ((mAt us123 i).t.queue.length) ((mAt us123 i).qc), .int .i64 ((mAt us123 i).t.to)]) rt_35 rfl rfl (range_sub hr278 0 8 rfl) rfl ?_
      refine wpo_call (vs := [.agg #[.int .i64 ((mAt us123 i).t.kind), .int .i64 ((mAt us123 i).t.lab.s), .int .i64 ((mAt us123 i).t.lab.v), .int .i64 ((mAt us123 i).t.ve), .int .i64 ((mAt us123 i).t.num), .slice ((mAt us123 i).sa) ((mAt us123 i).t.slots.length) ((mAt us123 i).sc), .slice ((mAt us123 i).qa) ((mAt us123 i).t.queue.length) ((mAt us123 i).qc), .int .i64 ((mAt us123 i).t.to)]]) gf_20 (args_cons rfl args_nil) rfl (ThingOk_c (mAt us123 i) _ (TabAt.th (TabAt.low hT127 (grown_trans hg206 hgl230)) (mAt_get (show i < us123.length by omega))).1 (TabAt.th (TabAt.low hT127 (grown_trans hg206 hgl230)) (mAt_get (show i < us123.length by omega))).2.1 (by first | omega | exact Nat.le_of_ble_eq_true rfl | (simp only [List.length_nil, List.length_cons, List.length_append, List.length_replicate]; omega)) (by first | omega | exact Nat.le_of_ble_eq_true rfl | (simp only [List.length_nil, List.length_cons, List.length_append, List.length_replicate]; omega))) ?_
      rintro _ w280 ⟨rfl, hg281⟩
      have hb282 := low0 hb234 hg281
      refine wpo_not (b' := !thingOk (mAt us123 i).t) rfl rfl rfl ?_
      refine wpo_move (v := .bool (!thingOk (mAt us123 i).t)) rfl rfl ?_
      rcases bcases (!thingOk (mAt us123 i).t) with h283 | h283
      ·
       have h284 := nt_t h283
       iterate 6 refine wpo_pass rfl rfl rfl h283 rfl ?_
       iterate 23 refine wpo_passu rfl rfl rfl rfl ?_
       refine wpo_pass rfl rfl rfl h283 rfl ?_
       refine wpo_pickt (v := .bool true) rfl h283 rfl rfl ?_
       exact wpo_nil ⟨⟨e237, e238, e239, e236, (congrArg Value.bool (by first | (simp only [h101, h208, h224, h225, h226, h227, h228, h229, h241, h283, h284, b0, b1, b2, b3, b4, b5, b6, b7, b8, b9]; done) | simp [h101, h208, h224, h225, h226, h227, h228, h229, h241, h283, h284]))⟩, hg281⟩
      ·
       have h285 := nt_f h283
       refine wpo_run rfl rfl rfl h283 ?_
       refine wpo_move (v := .slice (some ⟨B104, 0, none⟩) ms106.length cap105) e237 rfl ?_
       refine wpo_run rfl rfl rfl h283 ?_
       refine wpo_move (v := .int .i64 (i : Int)) e236 rfl ?_
       refine wpo_run rfl rfl rfl h283 ?_
       refine wpo_add (c := (i : Int) + 1) rfl rfl (by omega) (by omega) (by omega) rfl ?_
       refine wpo_run rfl rfl rfl h283 ?_
       have k286 := (k240.grown0 hg281)
       refine wpo_loadn (vs := [.int .i64 l112.s, .int .i64 l112.v]) rt_25 e238 rfl (k286.rangeL 0 2 rfl) rfl ?_
       refine wpo_run rfl rfl rfl h283 ?_
       refine wpo_call (vs := [.slice (some ⟨B104, 0, none⟩) ms106.length cap105, .int .i64 ((i : Int) + 1), .agg #[.int .i64 l112.s, .int .i64 l112.v]]) gf_21 (args_cons rfl (args_cons rfl (args_cons rfl args_nil))) rfl (ViewHigh_c ((i : Int) + 1) l112 (by omega) _ ms106 _ _ (TabG.at (TabG.low hTG107 (low0 (low0 (low0 (low0 (low1 hN118.grw hS121.grw (Nat.le_trans ((World.grownBy.refl _ none)).size hN118.ge)) hg129) hg206) hgl230) hg281))) hTl115 (by omega)) ?_
       rintro _ w287 ⟨rfl, hg288⟩
       have hb289 := low0 hb282 hg288
       refine wpo_run rfl rfl rfl h283 ?_
       refine wpo_move (v := .bool (viewHigh (tabT ms106) ((i : Int) + 1) l112)) rfl rfl ?_
       rcases bcases (viewHigh (tabT ms106) ((i : Int) + 1) l112) with h290 | h290
       ·
        refine wpo_run rfl rfl rfl h290 ?_
        refine wpo_move (v := .slice a124 us123.length cap125) e239 rfl ?_
        refine wpo_run rfl rfl rfl h290 ?_
        refine wpo_move (v := .int .i64 (i : Int)) e236 rfl ?_
        refine wpo_run rfl rfl rfl h290 ?_
        refine wpo_indexE es_23 rfl rfl ha276 ho277 (by omega) (by omega) rfl ?_
        refine wpo_run rfl rfl rfl h290 ?_
        refine wpo_fieldAddr (o' := o275 + 4) fo_35_3 rfl rfl rfl ?_
        refine wpo_run rfl rfl rfl h290 ?_
        refine wpo_load1 (v := .int .i64 ((mAt us123 i).t.num)) ot_3 rfl ((range_low hr278 (grown_trans hg281 hg288)) 4 _ rfl) rfl ?_
        refine wpo_run rfl rfl rfl h290 ?_
        refine wpo_neq (q := !(decide ((mAt us123 i).t.num = 0))) rfl rfl rfl rfl ?_
        refine wpo_run rfl rfl rfl h290 ?_
        refine wpo_move (v := .bool (!(decide ((mAt us123 i).t.num = 0)))) rfl rfl ?_
        rcases bcases (!(decide ((mAt us123 i).t.num = 0))) with h291 | h291
        ·
         have h292 := nt_t h291
         have h293 := of_decide_eq_false h292
         iterate 6 refine wpo_pass rfl rfl rfl h291 rfl ?_
         refine wpo_run rfl rfl rfl h290 ?_
         refine wpo_pickt (v := .bool true) rfl h291 rfl rfl ?_
         refine wpo_run rfl rfl rfl h290 ?_
         refine wpo_move (v := .bool true) rfl rfl ?_
         iterate 7 refine wpo_pass rfl rfl rfl rfl rfl ?_
         refine wpo_run rfl rfl rfl h290 ?_
         refine wpo_pickt (v := .bool true) rfl rfl rfl rfl ?_
         refine wpo_run rfl rfl rfl h283 ?_
         refine wpo_pickt (v := .bool true) rfl h290 rfl rfl ?_
         refine wpo_pickf (v := .bool true) rfl h283 rfl rfl ?_
         exact wpo_nil ⟨⟨e237, e238, e239, e236, (congrArg Value.bool (by first | (simp only [h101, h208, h224, h225, h226, h227, h228, h229, h241, h283, h285, h290, h291, h292, b0, b1, b2, b3, b4, b5, b6, b7, b8, b9]; done) | simp [h101, h208, h224, h225, h226, h227, h228, h229, h241, h283, h285, h290, h291, h292]))⟩, (grown_trans hg281 hg288)⟩
        ·
         have h294 := nt_f h291
         have h295 := of_decide_eq_true h294
         refine wpo_run rfl rfl rfl h291 ?_
         refine wpo_move (v := .slice a124 us123.length cap125) e239 rfl ?_
         refine wpo_run rfl rfl rfl h291 ?_
         refine wpo_move (v := .int .i64 (i : Int)) e236 rfl ?_
         refine wpo_run rfl rfl rfl h291 ?_
         refine wpo_indexE es_23 rfl rfl ha276 ho277 (by omega) (by omega) rfl ?_
         refine wpo_run rfl rfl rfl h291 ?_
         refine wpo_fieldAddr (o' := o275 + 3) fo_35_2 rfl rfl rfl ?_
         refine wpo_run rfl rfl rfl h291 ?_
         refine wpo_load1 (v := .int .i64 ((mAt us123 i).t.ve)) ot_3 rfl ((range_low hr278 (grown_trans hg281 hg288)) 3 _ rfl) rfl ?_
         refine wpo_run rfl rfl rfl h291 ?_
         refine wpo_neq (q := !(decide ((mAt us123 i).t.ve = 0))) rfl rfl rfl rfl ?_
         refine wpo_run rfl rfl rfl h290 ?_
         refine wpo_pickf (v := .bool (!(decide ((mAt us123 i).t.ve = 0)))) rfl h291 rfl rfl ?_
         refine wpo_run rfl rfl rfl h290 ?_
         refine wpo_move (v := .bool (!(decide ((mAt us123 i).t.ve = 0)))) rfl rfl ?_
         rcases bcases (!(decide ((mAt us123 i).t.ve = 0))) with h296 | h296
         ·
          have h297 := nt_t h296
          have h298 := of_decide_eq_false h297
          iterate 7 refine wpo_pass rfl rfl rfl h296 rfl ?_
          refine wpo_run rfl rfl rfl h290 ?_
          refine wpo_pickt (v := .bool true) rfl h296 rfl rfl ?_
          refine wpo_run rfl rfl rfl h283 ?_
          refine wpo_pickt (v := .bool true) rfl h290 rfl rfl ?_
          refine wpo_pickf (v := .bool true) rfl h283 rfl rfl ?_
          exact wpo_nil ⟨⟨e237, e238, e239, e236, (congrArg Value.bool (by first | (simp only [h101, h208, h224, h225, h226, h227, h228, h229, h241, h283, h285, h290, h291, h294, h296, h297, b0, b1, b2, b3, b4, b5, b6, b7, b8, b9]; done) | simp [h101, h208, h224, h225, h226, h227, h228, h229, h241, h283, h285, h290, h291, h294, h296, h297]))⟩, (grown_trans hg281 hg288)⟩
         ·
          have h299 := nt_f h296
          have h300 := of_decide_eq_true h299
          refine wpo_run rfl rfl rfl h296 ?_
          refine wpo_move (v := .slice a124 us123.length cap125) e239 rfl ?_
          refine wpo_run rfl rfl rfl h296 ?_
          refine wpo_move (v := .int .i64 (i : Int)) e236 rfl ?_
          refine wpo_run rfl rfl rfl h296 ?_
          refine wpo_indexE es_23 rfl rfl ha276 ho277 (by omega) (by omega) rfl ?_
          refine wpo_run rfl rfl rfl h296 ?_
          refine wpo_fieldAddr (o' := o275 + 6) fo_35_5 rfl rfl rfl ?_
          refine wpo_run rfl rfl rfl h296 ?_
          refine wpo_load1 (v := .slice ((mAt us123 i).qa) ((mAt us123 i).t.queue.length) ((mAt us123 i).qc)) ot_33 rfl ((range_low hr278 (grown_trans hg281 hg288)) 6 _ rfl) rfl ?_
          refine wpo_run rfl rfl rfl h296 ?_
          refine wpo_len (by kernel_rfl) rfl rfl ?_
          refine wpo_run rfl rfl rfl h296 ?_
          refine wpo_gtr (q := decide (0 < ((mAt us123 i).t.queue.length : Int))) rfl rfl rfl rfl ?_
          refine wpo_run rfl rfl rfl h290 ?_
          refine wpo_pickf (v := .bool (decide (0 < ((mAt us123 i).t.queue.length : Int)))) rfl h296 rfl rfl ?_
          refine wpo_run rfl rfl rfl h283 ?_
          refine wpo_pickt (v := .bool (decide (0 < ((mAt us123 i).t.queue.length : Int)))) rfl h290 rfl rfl ?_
          refine wpo_pickf (v := .bool (decide (0 < ((mAt us123 i).t.queue.length : Int)))) rfl h283 rfl rfl ?_
          exact wpo_nil ⟨⟨e237, e238, e239, e236, (congrArg Value.bool (by first | (simp only [h101, h208, h224, h225, h226, h227, h228, h229, h241, h283, h285, h290, h291, h294, h296, h299, b0, b1, b2, b3, b4, b5, b6, b7, b8, b9]; done) | simp [h101, h208, h224, h225, h226, h227, h228, h229, h241, h283, h285, h290, h291, h294, h296, h299]))⟩, (grown_trans hg281 hg288)⟩
       ·
        iterate 7 refine wpo_pass rfl rfl rfl h290 rfl ?_
        iterate 6 refine wpo_passu rfl rfl rfl rfl ?_
        refine wpo_pass rfl rfl rfl h290 rfl ?_
        refine wpo_pass rfl rfl rfl h290 rfl ?_
        iterate 7 refine wpo_passu rfl rfl rfl rfl ?_
        refine wpo_pass rfl rfl rfl h290 rfl ?_
        refine wpo_run rfl rfl rfl h283 ?_
        refine wpo_pickf (v := .bool false) rfl h290 rfl rfl ?_
        refine wpo_pickf (v := .bool false) rfl h283 rfl rfl ?_
        exact wpo_nil ⟨⟨e237, e238, e239, e236, (congrArg Value.bool (by first | (simp only [h101, h208, h224, h225, h226, h227, h228, h229, h241, h283, h285, h290, b0, b1, b2, b3, b4, b5, b6, b7, b8, b9]; done) | simp [h101, h208, h224, h225, h226, h227, h228, h229, h241, h283, h285, h290]))⟩, (grown_trans hg281 hg288)⟩
     ·
      rintro f301 w302 ⟨⟨e303, e304, e305, e306, e307⟩, hg308⟩
      have hb309 := low0 hb234 hg308
      refine wpf_cond e307 (fun h310 => ?_) (fun h310 => ?_)
      ·
       refine wpf_seq_region ?_
       refine wpo_assign (v := .bool false) rfl rfl ?_
       refine wpo_nil ?_
       refine wpf_ret ?_
       refine blk_r ?_
       refine thn_r ?_
       refine thn_r ?_
       refine blk_r ?_
       refine thn_r ?_
       refine ⟨.bool false, res1 rfl rfl, ?_, hb309⟩
       exact (blank_no he126 h227 h229 (show i < ms106.length by omega) h310).elim
      ·
       have h311 := or_l h310
       have h312 := nt_f h311
       have h313 := or_r h310
       refine wpf_skip ?_
       refine blk_n ?_
       refine thn_n ?_
       refine wpf_region ?_
       refine wpo_move (v := .int .i64 (i : Int)) e306 rfl ?_
       refine wpo_add (c := (i : Int) + 1) rfl rfl (by omega) (by omega) (by omega) rfl ?_
       refine wpo_assign (v := .int .i64 ((i : Int) + 1)) rfl rfl ?_
       refine wpo_nil ?_
       refine thn_n ?_
       have k314 := (k240.grown0 hg308)
       exact ⟨ms106.length - (i + 1), by omega, (i + 1), rfl, (by omega), (low0 hgl230 hg308), rfl, e303, e304, e305, hb309, k314⟩
    ·
     have h315 := of_decide_eq_false h241
     refine wpf_exit ?_
     refine thn_e ?_
     refine thn_e ?_
     refine blk_e ?_
     refine thn_n ?_
     refine wpf_seq_region ?_
     refine wpo_move (v := .slice a124 us123.length cap125) e239 rfl ?_
     refine wpo_len (by kernel_rfl) rfl rfl ?_
     refine wpo_move (v := .slice (some ⟨B104, 0, none⟩) ms106.length cap105) e237 rfl ?_
     refine wpo_len (by kernel_rfl) rfl rfl ?_
     refine wpo_eql (q := decide ((us123.length : Int) = (ms106.length : Int))) rfl rfl rfl rfl ?_
     refine wpo_assign (v := .bool (decide ((us123.length : Int) = (ms106.length : Int)))) rfl rfl ?_
     refine wpo_nil ?_
     refine wpf_ret ?_
     refine ⟨.bool (decide ((us123.length : Int) = (ms106.length : Int))), res1 rfl rfl, ?_, hb234⟩
     exact congrArg Value.bool (decide_eq_true (by omega))
end Go.Dw.J
end
section
namespace Go.Dw
open Go.ChangeShapes Go.WideShapes Go.ChangeAt Go.RowKit Go.Deep
section
variable {H : Type} {enc : TypeId × Value → H} {P : Program} {w : World} {base : Nat} {spare : Nat → Bool} {held : Bool} {fuel : Nat} {cs : List Value} {x : DataW H × List MemPlace}
theorem read_slice {α : Type} {g : α → List Value} {ok : α → Prop} {t e : TypeId} {sz : Nat} (ht : P.underlying t = some (.slice e)) (hc : P.cellsOf e = sz) (hz : 0 < sz) (hg : Wide g sz) (hrd : ∀ n cs x, DataW.trod enc P w base spare held n e cs = some x → ∃ a, cs = g a ∧ ok a)
    (h : DataW.trod enc P w base spare held fuel t cs = some x) :
    ∃ (a : Option Addr) (xs : List α) (c : Nat), cs = [.slice a xs.length c] ∧ xs.length ≤ c ∧ c ≤ maxLen ∧ SlAt w a sz (xs.map g) ∧ (∀ y ∈ xs, ok y) ∧ (a = none → c = 0) := by
  rcases open_slice ht h with ⟨rfl, _⟩ | ⟨a, len, cap, m, n, D, Pl, rfl, _, hl, hm, hmm, _, hi⟩
  · exact ⟨none, [], 0, rfl, Nat.le_refl _, Nat.zero_le _, fun k x hk => by simp at hk, fun y hy => by simp at hy, fun _ => rfl⟩
  · have hlm : len ≤ m := by
      rw [hmm]; split <;> omega
    have hex : ∀ i : Fin len, ∃ y : α, ok y ∧ ∀ j, j < sz → w.cell? (a.add (i.val * sz + j)) = (g y)[j]? := fun i => by
      obtain ⟨cs', hcs, htr⟩ := hi i.val (by omega)
      obtain ⟨y, rfl, hy⟩ := hrd _ _ _ htr
      rw [hc] at hcs
      obtain ⟨_, _, hat⟩ := World.cells?_some hcs
      refine ⟨y, hy, fun j hj => ?_⟩
      rw [← hat j hj, add_add]
    refine ⟨some a, List.ofFn fun i : Fin len => Classical.choose (hex i), cap, by simp, by simpa using hl, hm, fun k x hk => ?_, fun y hy => ?_, fun hn => by cases hn⟩
    · rw [List.getElem?_map] at hk
      cases hy : (List.ofFn fun i : Fin len => Classical.choose (hex i))[k]? with
      | none => rw [hy] at hk; simp at hk
      | some y =>
        rw [hy] at hk
        obtain rfl : g y = x := by simpa using hk
        have hkl : k < len := by
          have := (List.getElem?_eq_some_iff.1 hy).1
          simpa using this
        have hye : Classical.choose (hex ⟨k, hkl⟩) = y := by
          rw [List.getElem?_ofFn] at hy
          simpa [hkl] using hy
        have hat := (Classical.choose_spec (hex ⟨k, hkl⟩)).2
        rw [hye] at hat
        obtain ⟨b, o, spot⟩ := a
        have hspot : spot = none := by
          obtain ⟨y0, _, hy0⟩ := hex ⟨0, by omega⟩
          have h0 := hy0 0 hz
          obtain ⟨v, hv⟩ : ∃ v, (g y0)[0]? = some v := ⟨_, List.getElem?_eq_getElem (by rw [hg]; exact hz)⟩
          rw [hv] at h0
          have := World.cell?_spot h0
          simpa [Addr.add] using this
        subst hspot
        refine ⟨b, o, rfl, fun j v hj => ?_⟩
        have hjl : j < sz := by rw [← hg y]; exact (List.getElem?_eq_some_iff.1 hj).1
        rw [← hj, ← hat j hjl]
        simp only [Addr.add]
        split
        · rename_i he
          rw [show o + k * sz + j = o by omega]
        · rw [show o + (k * sz + j) = o + k * sz + j by omega]
    · obtain ⟨i, rfl⟩ := List.mem_ofFn.1 hy
      exact (Classical.choose_spec (hex i)).1
theorem open_sl {α : Type} {g : α → List Value} {ok : α → Prop} {r : Reach} {b0 : Nat} {t e sz : Nat} {v : Value} {d : DataW H} {p : List MemPlace} (hs : P.underlying t = some (.slice e)) (hc : P.cellsOf e = sz) (hz : 0 < sz) (hg : Wide g sz)
    (hrd : ∀ n cs x, DataW.trod enc P w base spare held n e cs = some x → ∃ a, cs = g a ∧ ok a) (hv : Value.okWide P w r b0 t v) (h : DataW.Trod enc P w base spare held t v d p) :
    ∃ (a : Option Addr) (xs : List α) (c : Nat), v = .slice a xs.length c ∧ xs.length ≤ 9223372036854775807 ∧ xs.length ≤ c ∧ SlAt w a sz (xs.map g) ∧ ∀ y ∈ xs, ok y := by
  obtain ⟨a, len, cap, rfl⟩ := okWide_slice hs hv
  obtain ⟨fuel, hf⟩ := h
  obtain ⟨a', xs, c, h1, h2, h3, h4, h5, h7⟩ := read_slice hs hc hz hg hrd hf
  have h6 : Value.slice a len cap = .slice a' xs.length c := by simpa [Value.cells] using h1
  refine ⟨a', xs, c, h6, ?_, h2, h4, h5⟩
  have : maxLen = 9223372036854775807 := by decide
  omega
theorem read_b {t : TypeId} (ht : P.underlying t = some (.int .u8)) (h : DataW.trod enc P w base spare held fuel t cs = some x) : ∃ n : Int, cs = bcell n ∧ (0 ≤ n ∧ n ≤ 255) := by
  obtain ⟨n, hn, _, hw⟩ := DataW.trod_int ht h
  refine ⟨n, hn, ?_⟩
  have h2 := Bool.and_eq_true_iff.1 hw
  have h3 := of_decide_eq_true h2.1
  have h4 := of_decide_eq_true h2.2
  exact ⟨h3, h4⟩
def Lab.wf (l : Lab) : Prop := (Lit.int .i64 l.s).wf = true ∧ (Lit.int .i64 l.v).wf = true
def Cl.wf (q : Cl) : Prop := (Lit.int .i64 q.kind).wf = true ∧ (Lit.int .i64 q.run).wf = true ∧ (Lit.int .i64 q.a).wf = true ∧ (Lit.int .i64 q.b).wf = true ∧ (Lit.int .i64 q.n).wf = true
theorem trodAll_below (hl : laidOutB P = true) {W W' : World} (hb : Below W.heap.size W W') : ∀ (ts : List TypeId) (vs : List Value) (ds : List (DataW H)) (ps : List MemPlace), ts.all (fun t => P.readableRec t && decide (t < P.types.size)) = true →
    DataW.TrodAll enc P W 0 (fun _ => true) true ts vs ds ps → (∀ y ∈ ps, y.block < W.heap.size) → DataW.TrodAll enc P W' 0 (fun b => decide (b < W.heap.size)) true ts vs ds ps
  | [], _, _, _, _, h, _ => by
    obtain ⟨rfl, rfl, rfl⟩ := trodAll_nil h
    exact rfl
  | t :: ts, _, _, _, ht, h, hlt => by
    obtain ⟨v, vs, d, ds, p, q, rfl, rfl, rfl, h1, h2⟩ := trodAll_cons h
    simp only [List.all_cons, Bool.and_eq_true, decide_eq_true_eq] at ht
    exact ⟨p, q, Below.trod hl ht.1.1 ht.1.2 h1 hb fun y hy => hlt y (List.mem_append_left _ hy), trodAll_below hl hb ts vs ds q ht.2 h2 fun y hy => hlt y (List.mem_append_right _ hy), rfl⟩
theorem post_true {f : Func} {s : ChangeSpec} {apart handsOn : Bool} {W W' : World} {args : Array Value} {ds gs : List (DataW H)} {before pa : List MemPlace} {tb : TypeId} (hl : laidOutB P = true)
    (hr : f.params.toList.all (fun t => P.readableRec t && decide (t < P.types.size)) = true) (hW : DataW.Whole enc P f.params.toList s.vars apart W args.toList ds gs before)
    (hA : DataW.TrodAll enc P W 0 (fun _ => true) true f.params.toList args.toList ds pa) (hlt : ∀ y ∈ pa, y.block < W.heap.size) (hs : s.fn H (ds ++ gs) = { results := [.lit (.bool true)], args := ds }) (hv : s.vars = [])
    (hres : f.resultTypes = #[tb]) (htb : P.underlying tb = some .bool) (hb : Below W.heap.size W W') : s.post enc P f apart true handsOn false W args (.bool true) W' := by
  refine ⟨ds, gs, before, [], pa, [], hW, ?_, ?_, ?_, hb.frame _, fun h => by cases h⟩
  · rw [hs, hres]
    exact trodAll_mk1 (shut_bool htb _)
  · rw [hs]
    exact trodAll_below hl hb _ _ _ _ hr hA hlt
  · rw [hs, hv]
    rfl
end
end Go.Dw
end
section
namespace Go.Dw.J
open Go.RowKit Go.Dw Go.Proofs
open Go.Conc (G solo)
set_option linter.unusedSectionVars false
set_option linter.unusedSimpArgs false
set_option linter.unusedVariables false
theorem seeO_not {o : Obj} (h : seeO o ≠ pz) : seeO o = o := by cases o <;> first | rfl | exact absurd rfl h
theorem seeAll_keep {W : World} : @Keep ⟨W.heap.size, W⟩ (seeAll W) W := by
  refine ⟨Nat.le_refl _, fun b hb => ?_⟩
  have hb' : b < W.heap.size := hb
  have e : W.heap[b]? = some W.heap[b] := Array.getElem?_eq_getElem hb'
  by_cases h : seeO W.heap[b] = pz
  · refine .inr ⟨fun hs => hs.2 ?_, rfl⟩
    rw [seeAll_get, e, Option.map_some, h]
  · refine .inl ⟨⟨by simpa [seeAll] using hb', fun e2 => h ?_⟩, ?_⟩
    · rw [seeAll_get, e, Option.map_some] at e2
      exact Option.some.inj e2
    · rw [seeAll_get, e, Option.map_some, seeO_not h]
theorem seeAll_sl {W : World} {a : Option Addr} {sz : Nat} {xs : List (List Value)} (h : SlAt W a sz xs) : SlAt (seeAll W) a sz xs := fun k x hk => by
  obtain ⟨b, o, ha, hr⟩ := h k x hk
  exact ⟨b, o, ha, fun j v hj => seeAll_cell (hr j v hj)⟩
theorem law_good {k : FuncId} {fn : Func} {c : Code} {n : Nat} {args : Array Value} {W : World} (hf : Try.prog.funcs[k]? = some fn) (hb : fn.body = some c) (hn : fn.ntmps = n) (hs : Nat.ble args.size n = true) (hin : Try.prog.inits.idxOf? k = none)
    (law : ∀ [Comp] [ViewRule], ViewRule.base ≤ (seeAll W).heap.size → Wpf Try.prog n (endQ Try.prog fn (fun v w' => v = .bool true ∧ (seeAll W).grownBy w' none)) c (f0 args) (seeAll W)) :
    Runs Try.prog (fun v W' => v = .bool true ∧ Below W.heap.size W { W' with tape := W.tape }) (solo (G (Frame.enter Try.prog k args .normal) []) W) #[] := by
  letI : KeepD := ⟨W.heap.size, W⟩
  have hsz : (seeAll W).heap.size = W.heap.size := by simp [seeAll]
  refine runs_start seeAll_keep (bes_top OKV okv hf hb hn hs hin (R := fun v w' => v = .bool true ∧ (seeAll W).grownBy w' none) (fun v A' w ⟨hv, hg⟩ hsee hk => ⟨hv, ?_⟩) (@law (comp0 OKV) viewRule (Nat.le_of_eq hsz.symm)))
  refine ⟨hsee.os.symm.trans hg.os, rfl, hsee.output.symm.trans hg.output, hk.1, fun b hb' => ?_⟩
  show w.heap[b]? = W.heap[b]?
  have e : W.heap[b]? = some W.heap[b] := Array.getElem?_eq_getElem hb'
  rcases hk.2 b hb' with ⟨h1, h2⟩ | ⟨_, h2⟩
  · have h3 := hg.block b (by rw [hsz]; exact hb') (by simp)
    rw [seeAll_get, e, Option.map_some] at h3
    have h4 : seeO W.heap[b] ≠ pz := fun h => h1.2 (by rw [h3, h])
    rw [← h2, h3, seeO_not h4, e]
  · exact h2
end Go.Dw.J
namespace Go.Dw
theorem post_tape {H : Type} {enc : TypeId × Value → H} {P : Program} {f : Func} {s : ChangeSpec} {apart fresh handsOn : Bool} {W W' : World} {args : Array Value} {v : Value} {tp : Tape} (h : s.post enc P f apart fresh handsOn false W args v { W' with tape := tp }) : s.post enc P f apart fresh handsOn false W args v W' := by
  obtain ⟨ds, gs, before, pr, pa, pv, h1, h2, h3, h4, h5, h6⟩ := h
  exact ⟨ds, gs, before, pr, pa, pv, h1, DataW.TrodAll.of_heap (w' := W') (by rfl) h2, DataW.TrodAll.of_heap (w' := W') (by rfl) h3, DataW.TrodVars.of_heap (w' := W') (by rfl) h4, h5, fun h => by cases h⟩
end Go.Dw
end
