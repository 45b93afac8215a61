/- Laws and walks: my templates, and what a program of mine (gen.py) printed out of the functions; only what the row reaches. -/
import Derived.Test.YtldnkinaedgnpaaVE4
section
namespace Go.Dw.J
open Go.RowKit Go.Dw Go.Proofs
set_option linter.unusedSectionVars false
set_option maxRecDepth 100000
set_option maxHeartbeats 4000000
set_option linter.unusedSimpArgs false
set_option linter.unusedVariables false
section
variable [Comp]
theorem T8 (l : Lab) (w : World) (ms : List MTh) (a : Option Addr) (c : Nat) (hM : TabAt w a ms) (hlen : TabLen ms) (hn : ms.length ≤ 1048576) (hT : tableOk (tabT ms) = true) (hl : labelOk l = true) : CallsR Try.prog 44 #[.slice a ms.length c, .agg #[.int .i64 l.s, .int .i64 l.v]] w (fun v B => ∃ (us : List MTh) (a' : Option Addr) (c' : Nat), v = .slice a' us.length c' ∧ tabT us = (tabT ms).map (viewTh · l) ∧ TabAt B a' us ∧ (a' = none → c' = 0) ∧ w.grownBy B none) := by
  refine Xl (n := 46) Try.func44 rfl Try.ntmps44 rfl ?_
  refine Xa ?_
  refine wpo_box (v := .agg #[.int .i64 l.s, .int .i64 l.v]) (cs := #[.int .i64 l.s, .int .i64 l.v]) rfl rfl rfl ?_
  intro bL w1 hN1
  refine wpo_assign (v := .slice none 0 0) rfl rfl (wpo_nil ?_)
  refine Xa ?_
  refine wpo_move (v := .slice a ms.length c) rfl rfl ?_
  refine Xi (R := fun v w' => ∃ (B cap : Nat) (ys : List MTh), v = .slice (some ⟨B, 0, none⟩) ms.length cap ∧ ys.length = ms.length ∧ tabT ys = tabT ms ∧ w1.heap.size ≤ B ∧ Own w' B 35 8 cap ys.length (ys.flatMap MTh.cells) ∧ RowsO 74 3 w1.heap.size w' ys ∧ w1.grownBy w' none) (vs := [.slice a ms.length c]) Z1 (Xc rfl Xg) rfl ((Dk _ ms a c (hM.low hN1.grw) hlen hn).mono fun v w' ⟨B, cap, ys, h1, h2, h3⟩ => ⟨B, cap, ys, by rw [h1, Q5 h2], Q5 h2, h2, h3⟩) ?_
  rintro _ w2 ⟨B0, cap, ys0, rfl, hl0, hy0, hge, hO0, hR0, hg2⟩
  refine wpo_assign (v := .slice (some ⟨B0, 0, none⟩) ms.length cap) rfl rfl (wpo_nil ?_)
  have hw1 := hN1.grw.size
  have hbL := hN1.blk.lt
  have hgw2 := Xj hN1.grw hg2
  have toN : ∀ {W W' : World}, w.grownBy W none → W.grownBy W' (some B0) → w.grownBy W' none := fun h1 h2 =>
    ⟨h2.os.trans h1.os, h2.tape.trans h1.tape, h2.output.trans h1.output, Nat.le_trans h1.size h2.size, fun b hb _ => (h2.block b (Nat.lt_of_lt_of_le hb h1.size) (by simp; omega)).trans (h1.block b hb (by simp))⟩
  refine Xh (Xa (wpo_assign (v := .int .i64 ((0 : Nat) : Int)) rfl rfl (wpo_nil ?_)))
  refine Xu ?_
  refine Yf (fun m F B => ∃ (k : Nat) (ys : List MTh), k + m = ms.length ∧ ys.length = ms.length ∧ tabT ys = ((tabT ms).take k).map (viewTh · l) ++ (tabT ms).drop k ∧ F 6 = .int .i64 (k : Int) ∧ F 5 = .slice (some ⟨B0, 0, none⟩) ms.length cap ∧ F 3 = .pointer (some ⟨bL, 0, none⟩) ∧ Own B B0 35 8 cap ys.length (ys.flatMap MTh.cells) ∧ RT w.heap.size B ys ∧ w.grownBy B none ∧ Blk B bL 25 #[.int .i64 l.s, .int .i64 l.v]) ms.length
    ⟨0, ys0, by omega, hl0, by simpa using hy0, rfl, rfl, rfl, hO0, fun m hm => RowO.mono (hR0.row m hm) hw1, hgw2, hN1.blk.grown0 hg2⟩ fun m F B ⟨k, ys, hkm, hyl, hyt, e6, e5, e3, hO, hR, hgw, hBL⟩ => ?_
  refine Xh (Xa ?_)
  refine wpo_move (v := .int .i64 (k : Int)) e6 rfl ?_
  refine wpo_move (v := .slice (some ⟨B0, 0, none⟩) ms.length cap) e5 rfl ?_
  refine wpo_len Pf rfl rfl ?_
  by_cases hk : k < ms.length
  · refine wpo_lss (q := true) rfl rfl (by simp; omega) rfl (wpo_nil (Yb rfl rfl (Xm ?_)))
    obtain ⟨y, hy⟩ := Qx (show k < ys.length by omega)
    have hkt : k < (tabT ms).length := by rw [X7]; exact hk
    have hyT : (tabT ms)[k]? = some y.t := by
      have h1 : (tabT ys)[k]? = some y.t := by unfold tabT; rw [List.getElem?_map, hy]; rfl
      have hl1 : (((tabT ms).take k).map (viewTh · l)).length = k := by rw [List.length_map, List.length_take]; omega
      rw [hyt, List.getElem?_append_right (by omega), hl1, Nat.sub_self, List.getElem?_drop, Nat.add_zero] at h1
      exact h1
    have hym : y.t = (mAt ms k).t := by
      have h2 : (tabT ms)[k]? = some (mAt ms k).t := by unfold tabT; rw [List.getElem?_map, Xx hk]; rfl
      rw [hyT] at h2
      exact Option.some.inj h2
    have hla : labelOk y.t.lab = true := by rw [hym]; exact (Qm (L5 hT hk)).2.1
    have hlf : labelFlow y.t.lab l = flow y.t.lab l := by unfold labelFlow; rw [hla, hl]; rfl
    have hr := Hb hO hy
    have hBLl := hBL.lt
    have neL : bL ≠ B0 := by omega
    refine Xh (Xu (Xh ?_))
    refine Yx (m := 6) (vals := [(15, .slice (some ⟨B0, 0, none⟩) ms.length cap), (16, .int .i64 (k : Int)), (17, .pointer (some ⟨B0, k * 8, none⟩)), (18, .pointer (some ⟨B0, k * 8 + 1, none⟩)), (19, .agg #[.int .i64 y.t.lab.s, .int .i64 y.t.lab.v]), (20, .agg #[.int .i64 l.s, .int .i64 l.v])]) (fun w' => B.grownBy w' none) Qd (by kernel_rfl) (X4 _) ?_ ?_
    · refine Xd rfl (fun w3 hi => wpo_move (v := .slice (some ⟨B0, 0, none⟩) ms.length cap) e5 rfl (wpo_nil ⟨rfl, hi⟩)) ?_
      refine Xd rfl (fun w3 hi => wpo_move (v := .int .i64 (k : Int)) e6 rfl (wpo_nil ⟨rfl, hi⟩)) ?_
      refine Xd rfl (fun w3 hi => wpo_indexAddr (o' := k * 8) Jf rfl rfl (by omega) (by omega) (by simp) rfl (wpo_nil ⟨rfl, hi⟩)) ?_
      refine Xd rfl (fun w3 hi => wpo_fieldAddr (o' := k * 8 + 1) Ju rfl rfl rfl (wpo_nil ⟨rfl, hi⟩)) ?_
      refine Xd rfl (fun w3 hi => wpo_loadn (vs := [.int .i64 y.t.lab.s, .int .i64 y.t.lab.v]) Qg rfl rfl (Yq (Yd hr hi) 1 2 rfl) rfl (wpo_nil ⟨rfl, hi⟩)) ?_
      refine Xd rfl (fun w3 hi => wpo_loadn (vs := [.int .i64 l.s, .int .i64 l.v]) Qg e3 rfl ((hBL.grown0 hi).rangeL 0 2 rfl) rfl (wpo_nil ⟨rfl, hi⟩)) Qc
    · intro w3 hi
      refine Xi (vs := [.agg #[.int .i64 y.t.lab.s, .int .i64 y.t.lab.v], .agg #[.int .i64 l.s, .int .i64 l.v]]) Z4 (Xc rfl (Xc rfl Xg)) rfl (Di y.t.lab l hla hl _) ?_
      rintro _ w4 ⟨rfl, hg4⟩
      have hi4 := Xj hi hg4
      refine wpo_not (b' := !flow y.t.lab l) rfl rfl rfl (wpo_nil ?_)
      have next : ∀ (QQ : Exit → Fr → World → Prop) (F : Fr) (w' : World) (zs : List MTh), zs.length = ms.length → tabT zs = ((tabT ms).take (k + 1)).map (viewTh · l) ++ (tabT ms).drop (k + 1) → F 5 = .slice (some ⟨B0, 0, none⟩) ms.length cap → F 6 = .int .i64 (k : Int) → F 3 = .pointer (some ⟨bL, 0, none⟩) → Own w' B0 35 8 cap zs.length (zs.flatMap MTh.cells) → RT w.heap.size w' zs → w.grownBy w' none → Blk w' bL 25 #[.int .i64 l.s, .int .i64 l.v] →
          Wpf Try.prog 46 (thn (fun f' A' => ∃ m' < m, ∃ (k : Nat) (ys : List MTh), k + m' = ms.length ∧ ys.length = ms.length ∧ tabT ys = ((tabT ms).take k).map (viewTh · l) ++ (tabT ms).drop k ∧ f' 6 = .int .i64 (k : Int) ∧ f' 5 = .slice (some ⟨B0, 0, none⟩) ms.length cap ∧ f' 3 = .pointer (some ⟨bL, 0, none⟩) ∧ Own A' B0 35 8 cap ys.length (ys.flatMap MTh.cells) ∧ RT w.heap.size A' ys ∧ w.grownBy A' none ∧ Blk A' bL 25 #[.int .i64 l.s, .int .i64 l.v]) QQ) (match Try.f44.body with | some (.seq _ (.seq _ (.seq (.seq _ (.block _ (.loop (.seq _ (.seq _ c))))) _))) => c | _ => .skip) F w' := by
        intro QQ F w' zs hzl hzt g5 g6 g3 hO' hR' hg' hb'
        refine Xs ?_
        refine wpo_move (v := .int .i64 (k : Int)) g6 rfl ?_
        refine wpo_add (c := ((k + 1 : Nat) : Int)) rfl rfl (by omega) (by omega) (by omega) rfl ?_
        refine wpo_assign (v := .int .i64 ((k + 1 : Nat) : Int)) rfl rfl (wpo_nil ?_)
        exact ⟨m - 1, by omega, k + 1, zs, by omega, hzl, hzt, rfl, g5, g3, hO', hR', hg', hb'⟩
      cases hf : flow y.t.lab l with
      | true =>
        refine X8 rfl rfl (Xm ?_)
        have e := L9 (z := y) hyt hkt hy (Sc (hlf.trans hf)).symm
        have es : ys.set k y = ys := by
          obtain ⟨h1, h2⟩ := List.getElem?_eq_some_iff.1 hy
          rw [← h2, List.set_getElem_self]
        rw [es] at e
        exact next _ _ _ ys hyl e e5 e6 e3 (hO.grown0 hi4) (hR.low hi4) (Xj hgw hi4) (hBL.grown0 hi4)
      | false =>
        refine Yb rfl rfl ?_
        refine Fo (ms := ms) (cap := cap) (bL := bL) rfl (Nat.le_trans hgw.size hi4.size) hy hk (by omega) (hO.grown0 hi4) (hR.low hi4) e5 e6 e3 fun F' w' z hz hg g5 g6 g3 hR' hO' => ?_
        have e := L9 (z := z) hyt hkt hy (by rw [hz]; unfold viewTh; rw [if_neg (by rw [hlf, hf]; simp)])
        exact next _ F' w' _ (by rw [List.length_set]; exact hyl) e g5 g6 g3 (by rw [List.length_set]; exact hO') hR' (toN (Xj hgw hi4) hg) ((hBL.grown0 hi4).grown hg (by simp; omega))
  · refine wpo_lss (q := false) rfl rfl (by simp; omega) rfl (wpo_nil (X8 rfl rfl (Yo ?_)))
    have hkn : k = ms.length := by omega
    simp only [thn, blk, ↓reduceIte]
    refine Xa ?_
    refine wpo_move (v := .slice (some ⟨B0, 0, none⟩) ms.length cap) e5 rfl ?_
    refine wpo_assign (v := .slice (some ⟨B0, 0, none⟩) ms.length cap) rfl rfl (wpo_nil (Xk ?_))
    refine ⟨.slice (some ⟨B0, 0, none⟩) ms.length cap, res1 rfl rfl, ys, some ⟨B0, 0, none⟩, cap, by rw [hyl], ?_, ⟨Own.sl Y6 hO, fun m hm => (hR m hm).th⟩, (fun h => by cases h), hgw⟩
    rw [hyt, hkn, List.take_of_length_le (by rw [X7]; omega), List.drop_eq_nil_of_le (by rw [X7]; omega), List.append_nil]
end
end Go.Dw.J
end
section
namespace Go.Dw.J
open Go.RowKit Go.Dw Go.Proofs
set_option linter.unusedSectionVars false
set_option linter.unusedSimpArgs false
set_option linter.unusedVariables false
def viewSame (a b : List Th) (l : Lab) : Bool := tableOk a && tableOk b && labelOk l && decide (a.length = b.length) && decide (viewTab a l = viewTab b l)
theorem D9 {m p : Th} : (((((((decide (m.kind = p.kind)) && (decide (m.lab = p.lab))) && (decide (m.ve = p.ve))) && (decide (m.num = p.num))) && (decide (m.to = p.to))) && (decide (m.slots = p.slots))) && (decide (m.queue = p.queue))) = decide (m = p) := by
  rw [Bool.eq_iff_iff]
  simp only [Bool.and_eq_true, decide_eq_true_eq]
  exact ⟨fun ⟨⟨⟨⟨⟨⟨h1, h2⟩, h3⟩, h4⟩, h5⟩, h6⟩, h7⟩ => Ts h1 h2 h3 h4 h6 h7 h5, fun h => by subst h; exact ⟨⟨⟨⟨⟨⟨rfl, rfl⟩, rfl⟩, rfl⟩, rfl⟩, rfl⟩, rfl⟩⟩
theorem B9 {us ps : List MTh} {i : Nat} (ha : (tabT us).take i = (tabT ps).take i) (h1 : i < us.length) (h2 : i < ps.length) (h : (mAt us i).t = (mAt ps i).t) : (tabT us).take (i + 1) = (tabT ps).take (i + 1) :=
  Jr ha (K5 h1) (K5 h2) h
theorem Sb {ms ps : List MTh} {l : Lab} (h : ((((!tableOk (tabT ms)) || (!tableOk (tabT ps))) || (!labelOk l)) || (!(decide ((ms.length : Int) = (ps.length : Int))))) = true) : false = viewSame (tabT ms) (tabT ps) l := by
  unfold viewSame
  rw [X7, X7]
  have e : decide (ms.length = ps.length) = decide ((ms.length : Int) = (ps.length : Int)) := by rw [decide_eq_decide]; omega
  rw [e]
  revert h
  cases tableOk (tabT ms) <;> cases tableOk (tabT ps) <;> cases labelOk l <;> cases decide ((ms.length : Int) = (ps.length : Int)) <;> simp
theorem Pd {ms ps us xs : List MTh} {l : Lab} {i : Nat} (he : tabT us = viewTab (tabT ms) l) (he2 : tabT xs = viewTab (tabT ps) l) (h1 : tableOk (tabT ms) = true) (h2 : tableOk (tabT ps) = true) (h3 : labelOk l = true) (hl : ms.length = ps.length) (ha : (tabT us).take i = (tabT xs).take i) (hi : us.length ≤ i ∧ xs.length ≤ i) : true = viewSame (tabT ms) (tabT ps) l := by
  unfold viewSame
  rw [h1, h2, h3, X7, X7, ← he, ← he2, decide_eq_true hl]
  rw [List.take_of_length_le (by rw [X7]; exact hi.1), List.take_of_length_le (by rw [X7]; exact hi.2)] at ha
  rw [decide_eq_true ha]; rfl
theorem Sa {ms ps us xs : List MTh} {l : Lab} {i : Nat} (he : tabT us = viewTab (tabT ms) l) (he2 : tabT xs = viewTab (tabT ps) l) (h : ¬ (mAt us i).t = (mAt xs i).t) : false = viewSame (tabT ms) (tabT ps) l := by
  unfold viewSame
  rw [← he, ← he2, decide_eq_false (p := tabT us = tabT xs) (fun e => h (by rw [Hx, Hx, e])), Bool.and_false]
section
variable {ms us : List MTh} {l : Lab}
theorem Vw {ts : List Th} (h1 : tableOk ts = true) (h2 : labelOk l = true) : viewTab ts l = ts.map (viewTh · l) := by unfold viewTab; rw [h1, h2]; rfl
theorem Tu (he : tabT us = viewTab (tabT ms) l) (h1 : tableOk (tabT ms) = true) (h2 : labelOk l = true) {i : Nat} (hi : i < ms.length) : (mAt us i).t = viewTh (mAt ms i).t l := by
  rw [Hx, Hx, he, Vw h1 h2, List.getD_eq_getElem?_getD, List.getElem?_map, List.getD_eq_getElem?_getD, List.getElem?_eq_getElem (by rw [X7]; exact hi)]
  rfl
theorem Jm (he : tabT us = viewTab (tabT ms) l) (h1 : tableOk (tabT ms) = true) (h2 : labelOk l = true) : us.length = ms.length := by
  have := congrArg List.length he
  rwa [Vw h1 h2, List.length_map, X7, X7] at this
theorem Vv (he : tabT us = viewTab (tabT ms) l) : us.length ≤ ms.length := by
  have := congrArg List.length he
  rw [X7] at this
  unfold viewTab at this
  split at this
  · rw [List.length_map, X7] at this; omega
  · have h0 : us.length = 0 := this
    omega
theorem Tv {t : Th} (h : t.slots.length ≤ 1048576 ∧ t.queue.length ≤ 1048576) : (viewTh t l).slots.length ≤ 1048576 ∧ (viewTh t l).queue.length ≤ 1048576 := by
  unfold viewTh
  split
  · exact h
  · unfold thingNew
    split
    · unfold newTh
      refine ⟨?_, by simp⟩
      show (if has4 t.kind = true then zeros4 else []).length ≤ _
      split <;> decide
    · decide
theorem Kq (he : tabT us = viewTab (tabT ms) l) (hl : TabLen ms) : TabLen us := fun m hm => by
  have h1 : m.t ∈ tabT us := List.mem_map.2 ⟨m, hm, rfl⟩
  rw [he] at h1
  unfold viewTab at h1
  split at h1
  · obtain ⟨t, ht, e⟩ := List.mem_map.1 h1
    obtain ⟨q, hq, rfl⟩ := List.mem_map.1 ht
    rw [← e]
    exact Tv (hl q hq)
  · cases h1
theorem Nh {c : Prop} [Decidable c] {a b : Bool} (h1 : a = true) (h2 : b = true) : (if c then a else b) = true := by split <;> assumption
theorem Rc {t : Th} (h : thingOk t = true) : newOk t.kind t.lab t.to = true := by
  obtain ⟨h1, h2, _, _, _, _, h7⟩ := Qm h
  unfold newOk thingOk newTh
  simp only [Bool.and_eq_true]
  refine ⟨⟨⟨⟨⟨⟨h1, h2⟩, ?_⟩, ?_⟩, ?_⟩, ?_⟩, h7⟩
  · exact Nh rfl rfl
  · exact Nh rfl (Nh rfl rfl)
  · unfold slotsOk has4
    by_cases hk : t.kind = 2 ∨ t.kind = 3
    · have h4 : (decide (t.kind = 2) || decide (t.kind = 3)) = true := by simpa using hk
      simp only [if_pos hk, h4, if_true]; decide
    · have h4 : (decide (t.kind = 2) || decide (t.kind = 3)) = false := by simpa using hk
      simp only [if_neg hk, h4]; rfl
  · exact Nh rfl rfl
theorem Wf (he : tabT us = viewTab (tabT ms) l) (h1 : tableOk (tabT ms) = true) (h2 : labelOk l = true) {i : Nat} (hi : i < ms.length) : thingOk (mAt us i).t = true := by
  have ht := L5 h1 hi
  rw [Tu he h1 h2 hi]
  unfold viewTh
  split
  · exact ht
  · unfold thingNew; rw [if_pos (Rc ht)]; exact Rc ht
end
theorem RowO.typB {TR TI lo B : Nat} {w w' : World} {m : MTh} {U : TypeId} {cs : Array Value} (h : RowO TR TI lo w m) (hg : w.grownBy w' (some B)) (k : Blk w B U cs) (h1 : TR ≠ U) (h2 : TI ≠ U) : RowO TR TI lo w' m := ⟨h.s.typB hg k h1, h.q.typB hg k h2⟩
section
variable [Comp]
end
end Go.Dw.J
end
section
namespace Go.Dw.J
open Go.RowKit Go.Dw Go.Proofs
set_option linter.unusedSectionVars false
set_option maxRecDepth 100000
set_option maxHeartbeats 4000000
set_option linter.unusedSimpArgs false
set_option linter.unusedVariables false
theorem I4 : goFn Try.prog 12 = true := by kernel_rfl
theorem Xav : goFn Try.prog 58 = true := by kernel_rfl
theorem Xa3 : goFn Try.prog 98 = true := by kernel_rfl
theorem Xa4 : goFn Try.prog 99 = true := by kernel_rfl
theorem C0 [Comp] (w : World) (xs ys : List Rt) (a b : Option Addr) (c e : Nat) (hs : SlAt w a 5 (xs.map Rt.cells)) (ht : SlAt w b 5 (ys.map Rt.cells)) (hn : xs.length ≤ 1048576) (hm : ys.length ≤ 1048576) : CallsR Try.prog 98 #[.slice a xs.length c, .slice b ys.length e] w (fun v w' => v = .bool (decide (xs = ys)) ∧ w.grownBy w' none) := by
 refine Xl (n := 26) Try.func98 rfl Try.ntmps98 rfl ?_
 have hb0 := World.grownBy.refl w none
 refine Xa ?_
 refine wpo_assign (v := .bool false) rfl rfl ?_
 refine wpo_nil ?_
 refine Xh ?_
 refine Xa ?_
 refine wpo_move (v := .slice a xs.length c) rfl rfl ?_
 refine wpo_len (by kernel_rfl) rfl rfl ?_
 refine wpo_move (v := .slice b ys.length e) rfl rfl ?_
 refine wpo_len (by kernel_rfl) rfl rfl ?_
 refine wpo_neq (q := !(decide ((xs.length : Int) = (ys.length : Int)))) rfl rfl rfl rfl ?_
 refine wpo_nil ?_
 refine Xp rfl (fun h101 => ?_) (fun h101 => ?_)
 ·
  have h102 := Qi h101
  have h103 := of_decide_eq_false h102
  refine Xa ?_
  refine wpo_assign (v := .bool false) rfl rfl ?_
  refine wpo_nil ?_
  refine Xk ?_
  refine Xy ?_
  refine ⟨.bool false, res1 rfl rfl, ?_, hb0⟩
  exact congrArg Value.bool (decide_eq_false (fun h => by have := congrArg List.length h; omega)).symm
 ·
  have h104 := Y5 h101
  have h105 := of_decide_eq_true h104
  refine Xm ?_
  refine Xo ?_
  refine Xh ?_
  refine Xa ?_
  refine wpo_move (v := .slice a xs.length c) rfl rfl ?_
  refine wpo_len (by kernel_rfl) rfl rfl ?_
  refine wpo_move (v := .int .i64 0) rfl rfl ?_
  refine wpo_nil ?_
  refine Xu ?_
  refine Yf (fun mm f' w' => ∃ (k : Nat), mm = xs.length - k ∧ k ≤ xs.length ∧ xs.take k = ys.take k ∧ f' 13 = .int .i64 (k : Int) ∧ f' 0 = .slice a xs.length c ∧ f' 1 = .slice b ys.length e ∧ f' 12 = .int .i64 (xs.length : Int) ∧ w.grownBy w' none) (xs.length - 0) ⟨0, rfl, (Nat.zero_le _), rfl, rfl, rfl, rfl, rfl, hb0⟩ ?_
  rintro mm f106 w107 ⟨k, hm109, hk, ha, e110, e111, e112, e113, hb108⟩
  refine Xa ?_
  refine wpo_lss (q := decide ((k : Int) < (xs.length : Int))) e110 e113 rfl rfl ?_
  refine wpo_nil ?_
  refine Xh ?_
  refine Xp rfl (fun h114 => ?_) (fun h114 => ?_)
  ·
   have h115 := of_decide_eq_true h114
   refine Xm ?_
   refine Xo ?_
   refine Xh ?_
   refine Xu ?_
   refine Xa ?_
   refine wpo_move (v := .int .i64 (k : Int)) e110 rfl ?_
   refine wpo_assign (v := .int .i64 (k : Int)) rfl rfl ?_
   refine wpo_nil ?_
   refine Xh ?_
   obtain ⟨x148, hx149⟩ := Qx (l := xs) (i := k) (by omega)
   obtain ⟨b150, q151, o152, ha153, ho154, hr155⟩ := SlAt.at hs (Yc hx149)
   obtain ⟨x156, hx157⟩ := Qx (l := ys) (i := k) (by omega)
   obtain ⟨b158, q159, o160, ha161, ho162, hr163⟩ := SlAt.at ht (Yc hx157)
   refine Yx (m := 8) (vals := [(16, .slice a xs.length c), (17, .int .i64 (k : Int)), (18, .pointer (some ⟨b150, o152, none⟩)), (19, .agg #[.int .i64 x148.th, .int .i64 x148.ve, .bool x148.rd, .bool x148.wr, .bool x148.wk]), (20, .slice b ys.length e), (21, .int .i64 (k : Int)), (22, .pointer (some ⟨b158, o160, none⟩)), (23, .agg #[.int .i64 x156.th, .int .i64 x156.ve, .bool x156.rd, .bool x156.wr, .bool x156.wk])]) (fun w' => w107.grownBy w' none) Qd (by kernel_rfl) (X4 _) ?_ ?_
   ·
    refine Xd rfl (fun w164 hi165 => ?_) ?_
    ·
     have hb166 := low0 hb108 hi165
     refine wpo_move (v := .slice a xs.length c) e111 rfl ?_
     exact wpo_nil ⟨rfl, hi165⟩
    refine Xd rfl (fun w167 hi168 => ?_) ?_
    ·
     have hb169 := low0 hb108 hi168
     refine wpo_move (v := .int .i64 (k : Int)) rfl rfl ?_
     exact wpo_nil ⟨rfl, hi168⟩
    refine Xd rfl (fun w170 hi171 => ?_) ?_
    ·
     have hb172 := low0 hb108 hi171
     refine Xz Wo rfl rfl ha153 ho154 (by omega) (by omega) rfl ?_
     exact wpo_nil ⟨rfl, hi171⟩
    refine Xd rfl (fun w173 hi174 => ?_) ?_
    ·
     have hb175 := low0 hb108 hi174
     refine wpo_loadn (vs := [.int .i64 x148.th, .int .i64 x148.ve, .bool x148.rd, .bool x148.wr, .bool x148.wk]) Js rfl rfl (Yq (Yd hr155 hb175) 0 5 rfl) rfl ?_
     exact wpo_nil ⟨rfl, hi174⟩
    refine Xd rfl (fun w176 hi177 => ?_) ?_
    ·
     have hb178 := low0 hb108 hi177
     refine wpo_move (v := .slice b ys.length e) e112 rfl ?_
     exact wpo_nil ⟨rfl, hi177⟩
    refine Xd rfl (fun w179 hi180 => ?_) ?_
    ·
     have hb181 := low0 hb108 hi180
     refine wpo_move (v := .int .i64 (k : Int)) rfl rfl ?_
     exact wpo_nil ⟨rfl, hi180⟩
    refine Xd rfl (fun w182 hi183 => ?_) ?_
    ·
     have hb184 := low0 hb108 hi183
     refine Xz Wo rfl rfl ha161 ho162 (by omega) (by omega) rfl ?_
     exact wpo_nil ⟨rfl, hi183⟩
    refine Xd rfl (fun w185 hi186 => ?_) ?_
    ·
     have hb187 := low0 hb108 hi186
     refine wpo_loadn (vs := [.int .i64 x156.th, .int .i64 x156.ve, .bool x156.rd, .bool x156.wr, .bool x156.wk]) Js rfl rfl (Yq (Yd hr163 hb187) 0 5 rfl) rfl ?_
     exact wpo_nil ⟨rfl, hi186⟩
    exact Qc
   ·
    intro w188 hi189
    have hb190 := low0 hb108 hi189
    refine wpo_eqs (q := !(decide (x148 = x156))) rfl rfl rfl rfl (fun _ => Zm _ _ x148 x156 _) (fun _ => Zn x148 x156 _) rfl rfl ?_
    refine wpo_nil ?_
    refine Xo ?_
    refine Xp rfl (fun h191 => ?_) (fun h191 => ?_)
    ·
     have h192 := Qi h191
     have h193 := of_decide_eq_false h192
     refine Xa ?_
     refine wpo_assign (v := .bool false) rfl rfl ?_
     refine wpo_nil ?_
     refine Xk ?_
     refine Y4 ?_
     refine Xy ?_
     refine Xy ?_
     refine Y4 ?_
     refine Xy ?_
     refine ⟨.bool false, res1 rfl rfl, ?_, hb190⟩
     exact congrArg Value.bool (decide_eq_false (V7 hx149 hx157 (of_decide_eq_false h192))).symm
    ·
     have h194 := Y5 h191
     have h195 := of_decide_eq_true h194
     refine Xm ?_
     refine Je ?_
     refine Xo ?_
     refine Xs ?_
     refine wpo_add (c := (k : Int) + 1) e110 rfl (by omega) (by omega) (by omega) rfl ?_
     refine wpo_move (v := .int .i64 ((k : Int) + 1)) rfl rfl ?_
     refine wpo_nil ?_
     refine Xo ?_
     exact ⟨xs.length - (k + 1), by omega, (k + 1), rfl, (by omega), (Jr ha hx149 hx157 (of_decide_eq_true h194)), rfl, e111, e112, e113, hb190⟩
  ·
   have h196 := of_decide_eq_false h114
   refine Yo ?_
   refine Yz ?_
   refine Yz ?_
   refine Jn ?_
   refine Xo ?_
   refine Xa ?_
   refine wpo_assign (v := .bool true) rfl rfl ?_
   refine wpo_nil ?_
   refine Xk ?_
   refine ⟨.bool true, res1 rfl rfl, ?_, hb108⟩
   exact congrArg Value.bool (decide_eq_true (Kv ha (by omega) (by omega))).symm
theorem Cz [Comp] (w : World) (xs ys : List Int) (a b : Option Addr) (c e : Nat) (hs : SlAt w a 1 (xs.map icell)) (ht : SlAt w b 1 (ys.map icell)) (hn : xs.length ≤ 1048576) (hm : ys.length ≤ 1048576) : CallsR Try.prog 99 #[.slice a xs.length c, .slice b ys.length e] w (fun v w' => v = .bool (decide (xs = ys)) ∧ w.grownBy w' none) := by
 refine Xl (n := 26) Try.func99 rfl Try.ntmps99 rfl ?_
 have hb0 := World.grownBy.refl w none
 refine Xa ?_
 refine wpo_assign (v := .bool false) rfl rfl ?_
 refine wpo_nil ?_
 refine Xh ?_
 refine Xa ?_
 refine wpo_move (v := .slice a xs.length c) rfl rfl ?_
 refine wpo_len (by kernel_rfl) rfl rfl ?_
 refine wpo_move (v := .slice b ys.length e) rfl rfl ?_
 refine wpo_len (by kernel_rfl) rfl rfl ?_
 refine wpo_neq (q := !(decide ((xs.length : Int) = (ys.length : Int)))) rfl rfl rfl rfl ?_
 refine wpo_nil ?_
 refine Xp rfl (fun h101 => ?_) (fun h101 => ?_)
 ·
  have h102 := Qi h101
  have h103 := of_decide_eq_false h102
  refine Xa ?_
  refine wpo_assign (v := .bool false) rfl rfl ?_
  refine wpo_nil ?_
  refine Xk ?_
  refine Xy ?_
  refine ⟨.bool false, res1 rfl rfl, ?_, hb0⟩
  exact congrArg Value.bool (decide_eq_false (fun h => by have := congrArg List.length h; omega)).symm
 ·
  have h104 := Y5 h101
  have h105 := of_decide_eq_true h104
  refine Xm ?_
  refine Xo ?_
  refine Xh ?_
  refine Xa ?_
  refine wpo_move (v := .slice a xs.length c) rfl rfl ?_
  refine wpo_len (by kernel_rfl) rfl rfl ?_
  refine wpo_move (v := .int .i64 0) rfl rfl ?_
  refine wpo_nil ?_
  refine Xu ?_
  refine Yf (fun mm f' w' => ∃ (k : Nat), mm = xs.length - k ∧ k ≤ xs.length ∧ xs.take k = ys.take k ∧ f' 13 = .int .i64 (k : Int) ∧ f' 0 = .slice a xs.length c ∧ f' 1 = .slice b ys.length e ∧ f' 12 = .int .i64 (xs.length : Int) ∧ w.grownBy w' none) (xs.length - 0) ⟨0, rfl, (Nat.zero_le _), rfl, rfl, rfl, rfl, rfl, hb0⟩ ?_
  rintro mm f106 w107 ⟨k, hm109, hk, ha, e110, e111, e112, e113, hb108⟩
  refine Xa ?_
  refine wpo_lss (q := decide ((k : Int) < (xs.length : Int))) e110 e113 rfl rfl ?_
  refine wpo_nil ?_
  refine Xh ?_
  refine Xp rfl (fun h114 => ?_) (fun h114 => ?_)
  ·
   have h115 := of_decide_eq_true h114
   refine Xm ?_
   refine Xo ?_
   refine Xh ?_
   refine Xu ?_
   refine Xa ?_
   refine wpo_move (v := .int .i64 (k : Int)) e110 rfl ?_
   refine wpo_assign (v := .int .i64 (k : Int)) rfl rfl ?_
   refine wpo_nil ?_
   refine Xh ?_
   obtain ⟨x148, hx149⟩ := Qx (l := xs) (i := k) (by omega)
   obtain ⟨b150, q151, o152, ha153, ho154, hr155⟩ := SlAt.at hs (Yc hx149)
   obtain ⟨x156, hx157⟩ := Qx (l := ys) (i := k) (by omega)
   obtain ⟨b158, q159, o160, ha161, ho162, hr163⟩ := SlAt.at ht (Yc hx157)
   refine Yx (m := 8) (vals := [(16, .slice a xs.length c), (17, .int .i64 (k : Int)), (18, .pointer (some ⟨b150, o152, none⟩)), (19, .int .i64 x148), (20, .slice b ys.length e), (21, .int .i64 (k : Int)), (22, .pointer (some ⟨b158, o160, none⟩)), (23, .int .i64 x156)]) (fun w' => w107.grownBy w' none) Qd (by kernel_rfl) (X4 _) ?_ ?_
   ·
    refine Xd rfl (fun w164 hi165 => ?_) ?_
    ·
     have hb166 := low0 hb108 hi165
     refine wpo_move (v := .slice a xs.length c) e111 rfl ?_
     exact wpo_nil ⟨rfl, hi165⟩
    refine Xd rfl (fun w167 hi168 => ?_) ?_
    ·
     have hb169 := low0 hb108 hi168
     refine wpo_move (v := .int .i64 (k : Int)) rfl rfl ?_
     exact wpo_nil ⟨rfl, hi168⟩
    refine Xd rfl (fun w170 hi171 => ?_) ?_
    ·
     have hb172 := low0 hb108 hi171
     refine Xz Wq rfl rfl ha153 ho154 (by omega) (by omega) rfl ?_
     exact wpo_nil ⟨rfl, hi171⟩
    refine Xd rfl (fun w173 hi174 => ?_) ?_
    ·
     have hb175 := low0 hb108 hi174
     refine wpo_load1 (v := .int .i64 x148) X1 rfl ((Yd hr155 hb175) 0 _ rfl) rfl ?_
     exact wpo_nil ⟨rfl, hi174⟩
    refine Xd rfl (fun w176 hi177 => ?_) ?_
    ·
     have hb178 := low0 hb108 hi177
     refine wpo_move (v := .slice b ys.length e) e112 rfl ?_
     exact wpo_nil ⟨rfl, hi177⟩
    refine Xd rfl (fun w179 hi180 => ?_) ?_
    ·
     have hb181 := low0 hb108 hi180
     refine wpo_move (v := .int .i64 (k : Int)) rfl rfl ?_
     exact wpo_nil ⟨rfl, hi180⟩
    refine Xd rfl (fun w182 hi183 => ?_) ?_
    ·
     have hb184 := low0 hb108 hi183
     refine Xz Wq rfl rfl ha161 ho162 (by omega) (by omega) rfl ?_
     exact wpo_nil ⟨rfl, hi183⟩
    refine Xd rfl (fun w185 hi186 => ?_) ?_
    ·
     have hb187 := low0 hb108 hi186
     refine wpo_load1 (v := .int .i64 x156) X1 rfl ((Yd hr163 hb187) 0 _ rfl) rfl ?_
     exact wpo_nil ⟨rfl, hi186⟩
    exact Qc
   ·
    intro w188 hi189
    have hb190 := low0 hb108 hi189
    refine wpo_neq (q := !(decide (x148 = x156))) rfl rfl rfl rfl ?_
    refine wpo_nil ?_
    refine Xo ?_
    refine Xp rfl (fun h191 => ?_) (fun h191 => ?_)
    ·
     have h192 := Qi h191
     have h193 := of_decide_eq_false h192
     refine Xa ?_
     refine wpo_assign (v := .bool false) rfl rfl ?_
     refine wpo_nil ?_
     refine Xk ?_
     refine Y4 ?_
     refine Xy ?_
     refine Xy ?_
     refine Y4 ?_
     refine Xy ?_
     refine ⟨.bool false, res1 rfl rfl, ?_, hb190⟩
     exact congrArg Value.bool (decide_eq_false (V7 hx149 hx157 (of_decide_eq_false h192))).symm
    ·
     have h194 := Y5 h191
     have h195 := of_decide_eq_true h194
     refine Xm ?_
     refine Je ?_
     refine Xo ?_
     refine Xs ?_
     refine wpo_add (c := (k : Int) + 1) e110 rfl (by omega) (by omega) (by omega) rfl ?_
     refine wpo_move (v := .int .i64 ((k : Int) + 1)) rfl rfl ?_
     refine wpo_nil ?_
     refine Xo ?_
     exact ⟨xs.length - (k + 1), by omega, (k + 1), rfl, (by omega), (Jr ha hx149 hx157 (of_decide_eq_true h194)), rfl, e111, e112, e113, hb190⟩
  ·
   have h196 := of_decide_eq_false h114
   refine Yo ?_
   refine Yz ?_
   refine Yz ?_
   refine Jn ?_
   refine Xo ?_
   refine Xa ?_
   refine wpo_assign (v := .bool true) rfl rfl ?_
   refine wpo_nil ?_
   refine Xk ?_
   refine ⟨.bool true, res1 rfl rfl, ?_, hb108⟩
   exact congrArg Value.bool (decide_eq_true (Kv ha (by omega) (by omega))).symm
theorem R0 [Comp] (m p : MTh) (w : World) (ha : ThAt w m) (hb : ThAt w p) (hla : m.t.slots.length ≤ 1048576 ∧ m.t.queue.length ≤ 1048576) (hlb : p.t.slots.length ≤ 1048576 ∧ p.t.queue.length ≤ 1048576) : CallsR Try.prog 58 #[.agg #[.int .i64 m.t.kind, .int .i64 m.t.lab.s, .int .i64 m.t.lab.v, .int .i64 m.t.ve, .int .i64 m.t.num, .slice m.sa m.t.slots.length m.sc, .slice m.qa m.t.queue.length m.qc, .int .i64 m.t.to], .agg #[.int .i64 p.t.kind, .int .i64 p.t.lab.s, .int .i64 p.t.lab.v, .int .i64 p.t.ve, .int .i64 p.t.num, .slice p.sa p.t.slots.length p.sc, .slice p.qa p.t.queue.length p.qc, .int .i64 p.t.to]] w (fun v w' => v = .bool (decide (m.t = p.t)) ∧ w.grownBy w' none) := by
 refine Xl (n := 52) Try.func58 rfl Try.ntmps58 rfl ?_
 have hb0 := World.grownBy.refl w none
 refine Xa ?_
 refine wpo_box (v := .agg #[.int .i64 m.t.kind, .int .i64 m.t.lab.s, .int .i64 m.t.lab.v, .int .i64 m.t.ve, .int .i64 m.t.num, .slice m.sa m.t.slots.length m.sc, .slice m.qa m.t.queue.length m.qc, .int .i64 m.t.to]) (cs := #[.int .i64 m.t.kind, .int .i64 m.t.lab.s, .int .i64 m.t.lab.v, .int .i64 m.t.ve, .int .i64 m.t.num, .slice m.sa m.t.slots.length m.sc, .slice m.qa m.t.queue.length m.qc, .int .i64 m.t.to]) rfl rfl rfl ?_
 intro B101 w102 hN103
 have hlB101 := Xv hN103 hb0
 have hb104 := low0 hb0 hN103.grw
 refine wpo_box (v := .agg #[.int .i64 p.t.kind, .int .i64 p.t.lab.s, .int .i64 p.t.lab.v, .int .i64 p.t.ve, .int .i64 p.t.num, .slice p.sa p.t.slots.length p.sc, .slice p.qa p.t.queue.length p.qc, .int .i64 p.t.to]) (cs := #[.int .i64 p.t.kind, .int .i64 p.t.lab.s, .int .i64 p.t.lab.v, .int .i64 p.t.ve, .int .i64 p.t.num, .slice p.sa p.t.slots.length p.sc, .slice p.qa p.t.queue.length p.qc, .int .i64 p.t.to]) rfl rfl rfl ?_
 intro B105 w106 hN107
 have hlB105 := Xv hN107 hb104
 have lt_B101_B105 := Xr hN107 (hN103.blk).lt
 have hb108 := low0 hb104 hN107.grw
 refine wpo_assign (v := .bool false) rfl rfl ?_
 refine wpo_nil ?_
 refine Xt (fun f' w' => (f' 4 = .bool (((((((decide (m.t.kind = p.t.kind)) && (decide (m.t.lab = p.t.lab))) && (decide (m.t.ve = p.t.ve))) && (decide (m.t.num = p.t.num))) && (decide (m.t.to = p.t.to))) && (decide (m.t.slots = p.t.slots))) && (decide (m.t.queue = p.t.queue)))) ∧ w106.grownBy w' none) ?_ ?_
 ·
  refine wpo_fieldAddr (o' := 0) Yg rfl rfl rfl ?_
  have k119 := (hN103.blk.grown0 hN107.grw)
  refine wpo_load1 (v := .int .i64 m.t.kind) X1 rfl (k119.cell rfl) rfl ?_
  refine wpo_fieldAddr (o' := 0) Yg rfl rfl rfl ?_
  refine wpo_load1 (v := .int .i64 p.t.kind) X1 rfl (hN107.blk.cell rfl) rfl ?_
  refine wpo_eql (q := decide (m.t.kind = p.t.kind)) rfl rfl rfl rfl ?_
  refine wpo_move (v := .bool (decide (m.t.kind = p.t.kind))) rfl rfl ?_
  rcases X2 (decide (m.t.kind = p.t.kind)) with h120 | h120
  ·
   have h121 := of_decide_eq_true h120
   refine Xb rfl rfl rfl h120 ?_
   refine wpo_fieldAddr (o' := 1) Ju rfl rfl rfl ?_
   refine Xb rfl rfl rfl h120 ?_
   refine wpo_loadn (vs := [.int .i64 m.t.lab.s, .int .i64 m.t.lab.v]) Qg rfl rfl (k119.rangeL 1 2 rfl) rfl ?_
   refine Xb rfl rfl rfl h120 ?_
   refine wpo_fieldAddr (o' := 1) Ju rfl rfl rfl ?_
   refine Xb rfl rfl rfl h120 ?_
   refine wpo_loadn (vs := [.int .i64 p.t.lab.s, .int .i64 p.t.lab.v]) Qg rfl rfl (hN107.blk.rangeL 1 2 rfl) rfl ?_
   refine Xb rfl rfl rfl h120 ?_
   refine wpo_eqs (q := decide (m.t.lab = p.t.lab)) rfl rfl rfl rfl (fun _ => O2 _ _ m.t.lab p.t.lab _) (fun _ => O3 m.t.lab p.t.lab _) rfl rfl ?_
   refine wpo_pickt (v := .bool (decide (m.t.lab = p.t.lab))) rfl h120 rfl rfl ?_
   refine wpo_move (v := .bool (decide (m.t.lab = p.t.lab))) rfl rfl ?_
   rcases X2 (decide (m.t.lab = p.t.lab)) with h122 | h122
   ·
    have h123 := of_decide_eq_true h122
    refine Xb rfl rfl rfl h122 ?_
    refine wpo_fieldAddr (o' := 3) Ji rfl rfl rfl ?_
    refine Xb rfl rfl rfl h122 ?_
    refine wpo_load1 (v := .int .i64 m.t.ve) X1 rfl (k119.cell rfl) rfl ?_
    refine Xb rfl rfl rfl h122 ?_
    refine wpo_fieldAddr (o' := 3) Ji rfl rfl rfl ?_
    refine Xb rfl rfl rfl h122 ?_
    refine wpo_load1 (v := .int .i64 p.t.ve) X1 rfl (hN107.blk.cell rfl) rfl ?_
    refine Xb rfl rfl rfl h122 ?_
    refine wpo_eql (q := decide (m.t.ve = p.t.ve)) rfl rfl rfl rfl ?_
    refine wpo_pickt (v := .bool (decide (m.t.ve = p.t.ve))) rfl h122 rfl rfl ?_
    refine wpo_move (v := .bool (decide (m.t.ve = p.t.ve))) rfl rfl ?_
    rcases X2 (decide (m.t.ve = p.t.ve)) with h124 | h124
    ·
     have h125 := of_decide_eq_true h124
     refine Xb rfl rfl rfl h124 ?_
     refine wpo_fieldAddr (o' := 4) Jv rfl rfl rfl ?_
     refine Xb rfl rfl rfl h124 ?_
     refine wpo_load1 (v := .int .i64 m.t.num) X1 rfl (k119.cell rfl) rfl ?_
     refine Xb rfl rfl rfl h124 ?_
     refine wpo_fieldAddr (o' := 4) Jv rfl rfl rfl ?_
     refine Xb rfl rfl rfl h124 ?_
     refine wpo_load1 (v := .int .i64 p.t.num) X1 rfl (hN107.blk.cell rfl) rfl ?_
     refine Xb rfl rfl rfl h124 ?_
     refine wpo_eql (q := decide (m.t.num = p.t.num)) rfl rfl rfl rfl ?_
     refine wpo_pickt (v := .bool (decide (m.t.num = p.t.num))) rfl h124 rfl rfl ?_
     refine wpo_move (v := .bool (decide (m.t.num = p.t.num))) rfl rfl ?_
     rcases X2 (decide (m.t.num = p.t.num)) with h126 | h126
     ·
      have h127 := of_decide_eq_true h126
      refine Xb rfl rfl rfl h126 ?_
      refine wpo_fieldAddr (o' := 7) Q1 rfl rfl rfl ?_
      refine Xb rfl rfl rfl h126 ?_
      refine wpo_load1 (v := .int .i64 m.t.to) X1 rfl (k119.cell rfl) rfl ?_
      refine Xb rfl rfl rfl h126 ?_
      refine wpo_fieldAddr (o' := 7) Q1 rfl rfl rfl ?_
      refine Xb rfl rfl rfl h126 ?_
      refine wpo_load1 (v := .int .i64 p.t.to) X1 rfl (hN107.blk.cell rfl) rfl ?_
      refine Xb rfl rfl rfl h126 ?_
      refine wpo_eql (q := decide (m.t.to = p.t.to)) rfl rfl rfl rfl ?_
      refine wpo_pickt (v := .bool (decide (m.t.to = p.t.to))) rfl h126 rfl rfl ?_
      refine wpo_move (v := .bool (decide (m.t.to = p.t.to))) rfl rfl ?_
      rcases X2 (decide (m.t.to = p.t.to)) with h128 | h128
      ·
       have h129 := of_decide_eq_true h128
       refine Xb rfl rfl rfl h128 ?_
       refine wpo_fieldAddr (o' := 5) Y7 rfl rfl rfl ?_
       refine Xb rfl rfl rfl h128 ?_
       refine wpo_load1 (v := .slice m.sa m.t.slots.length m.sc) Jl rfl (k119.cell rfl) rfl ?_
       refine Xb rfl rfl rfl h128 ?_
       refine wpo_fieldAddr (o' := 5) Y7 rfl rfl rfl ?_
       refine Xb rfl rfl rfl h128 ?_
       refine wpo_load1 (v := .slice p.sa p.t.slots.length p.sc) Jl rfl (hN107.blk.cell rfl) rfl ?_
       refine Xb rfl rfl rfl h128 ?_
       refine Xi (vs := [.slice m.sa m.t.slots.length m.sc, .slice p.sa p.t.slots.length p.sc]) Xa3 (Xc rfl (Xc rfl Xg)) rfl (C0 _ m.t.slots p.t.slots _ _ _ _ (SlAt.low ha.1 hb108) (SlAt.low hb.1 hb108) (by first | omega | exact Nat.le_of_ble_eq_true rfl | (simp only [List.length_nil, List.length_cons, List.length_append, List.length_replicate]; omega)) (by first | omega | exact Nat.le_of_ble_eq_true rfl | (simp only [List.length_nil, List.length_cons, List.length_append, List.length_replicate]; omega))) ?_
       rintro _ w130 ⟨rfl, hg131⟩
       have hb132 := low0 hb108 hg131
       refine wpo_pickt (v := .bool (decide (m.t.slots = p.t.slots))) rfl h128 rfl rfl ?_
       refine wpo_move (v := .bool (decide (m.t.slots = p.t.slots))) rfl rfl ?_
       rcases X2 (decide (m.t.slots = p.t.slots)) with h133 | h133
       ·
        have h134 := of_decide_eq_true h133
        refine Xb rfl rfl rfl h133 ?_
        refine wpo_fieldAddr (o' := 6) Qy rfl rfl rfl ?_
        refine Xb rfl rfl rfl h133 ?_
        have k135 := (k119.grown0 hg131)
        refine wpo_load1 (v := .slice m.qa m.t.queue.length m.qc) J5 rfl (k135.cell rfl) rfl ?_
        refine Xb rfl rfl rfl h133 ?_
        refine wpo_fieldAddr (o' := 6) Qy rfl rfl rfl ?_
        refine Xb rfl rfl rfl h133 ?_
        have k136 := (hN107.blk.grown0 hg131)
        refine wpo_load1 (v := .slice p.qa p.t.queue.length p.qc) J5 rfl (k136.cell rfl) rfl ?_
        refine Xb rfl rfl rfl h133 ?_
        refine Xi (vs := [.slice m.qa m.t.queue.length m.qc, .slice p.qa p.t.queue.length p.qc]) Xa4 (Xc rfl (Xc rfl Xg)) rfl (Cz _ m.t.queue p.t.queue _ _ _ _ (SlAt.low ha.2.1 hb132) (SlAt.low hb.2.1 hb132) (by first | omega | exact Nat.le_of_ble_eq_true rfl | (simp only [List.length_nil, List.length_cons, List.length_append, List.length_replicate]; omega)) (by first | omega | exact Nat.le_of_ble_eq_true rfl | (simp only [List.length_nil, List.length_cons, List.length_append, List.length_replicate]; omega))) ?_
        rintro _ w137 ⟨rfl, hg138⟩
        have hb139 := low0 hb132 hg138
        refine wpo_pickt (v := .bool (decide (m.t.queue = p.t.queue))) rfl h133 rfl rfl ?_
        refine wpo_assign (v := .bool (decide (m.t.queue = p.t.queue))) rfl rfl ?_
        exact wpo_nil ⟨(congrArg Value.bool (by first | (simp only [h120, h122, h124, h126, h128, h133, b0, b1, b2, b3, b4, b5, b6, b7, b8, b9]; done) | simp [h120, h122, h124, h126, h128, h133])), (Xj hg131 hg138)⟩
       ·
        have h140 := of_decide_eq_false h133
        iterate 5 refine Xe rfl rfl rfl h133 rfl ?_
        refine wpo_pickf (v := .bool false) rfl h133 rfl rfl ?_
        refine wpo_assign (v := .bool false) rfl rfl ?_
        exact wpo_nil ⟨(congrArg Value.bool (by first | (simp only [h120, h122, h124, h126, h128, h133, b0, b1, b2, b3, b4, b5, b6, b7, b8, b9]; done) | simp [h120, h122, h124, h126, h128, h133])), hg131⟩
      ·
       have h141 := of_decide_eq_false h128
       iterate 5 refine Xe rfl rfl rfl h128 rfl ?_
       refine wpo_pickf (v := .bool false) rfl h128 rfl rfl ?_
       refine wpo_move (v := .bool false) rfl rfl ?_
       iterate 5 refine Xe rfl rfl rfl rfl rfl ?_
       refine wpo_pickf (v := .bool false) rfl rfl rfl rfl ?_
       refine wpo_assign (v := .bool false) rfl rfl ?_
       exact wpo_nil ⟨(congrArg Value.bool (by first | (simp only [h120, h122, h124, h126, h128, b0, b1, b2, b3, b4, b5, b6, b7, b8, b9]; done) | simp [h120, h122, h124, h126, h128])), (World.grownBy.refl _ _)⟩
     ·
      have h142 := of_decide_eq_false h126
      iterate 5 refine Xe rfl rfl rfl h126 rfl ?_
      refine wpo_pickf (v := .bool false) rfl h126 rfl rfl ?_
      refine wpo_move (v := .bool false) rfl rfl ?_
      iterate 5 refine Xe rfl rfl rfl rfl rfl ?_
      refine wpo_pickf (v := .bool false) rfl rfl rfl rfl ?_
      refine wpo_move (v := .bool false) rfl rfl ?_
      iterate 5 refine Xe rfl rfl rfl rfl rfl ?_
      refine wpo_pickf (v := .bool false) rfl rfl rfl rfl ?_
      refine wpo_assign (v := .bool false) rfl rfl ?_
      exact wpo_nil ⟨(congrArg Value.bool (by first | (simp only [h120, h122, h124, h126, b0, b1, b2, b3, b4, b5, b6, b7, b8, b9]; done) | simp [h120, h122, h124, h126])), (World.grownBy.refl _ _)⟩
    ·
     have h143 := of_decide_eq_false h124
     iterate 5 refine Xe rfl rfl rfl h124 rfl ?_
     refine wpo_pickf (v := .bool false) rfl h124 rfl rfl ?_
     refine wpo_move (v := .bool false) rfl rfl ?_
     iterate 5 refine Xe rfl rfl rfl rfl rfl ?_
     refine wpo_pickf (v := .bool false) rfl rfl rfl rfl ?_
     refine wpo_move (v := .bool false) rfl rfl ?_
     iterate 5 refine Xe rfl rfl rfl rfl rfl ?_
     refine wpo_pickf (v := .bool false) rfl rfl rfl rfl ?_
     refine wpo_move (v := .bool false) rfl rfl ?_
     iterate 5 refine Xe rfl rfl rfl rfl rfl ?_
     refine wpo_pickf (v := .bool false) rfl rfl rfl rfl ?_
     refine wpo_assign (v := .bool false) rfl rfl ?_
     exact wpo_nil ⟨(congrArg Value.bool (by first | (simp only [h120, h122, h124, b0, b1, b2, b3, b4, b5, b6, b7, b8, b9]; done) | simp [h120, h122, h124])), (World.grownBy.refl _ _)⟩
   ·
    have h144 := of_decide_eq_false h122
    iterate 5 refine Xe rfl rfl rfl h122 rfl ?_
    refine wpo_pickf (v := .bool false) rfl h122 rfl rfl ?_
    refine wpo_move (v := .bool false) rfl rfl ?_
    iterate 5 refine Xe rfl rfl rfl rfl rfl ?_
    refine wpo_pickf (v := .bool false) rfl rfl rfl rfl ?_
    refine wpo_move (v := .bool false) rfl rfl ?_
    iterate 5 refine Xe rfl rfl rfl rfl rfl ?_
    refine wpo_pickf (v := .bool false) rfl rfl rfl rfl ?_
    refine wpo_move (v := .bool false) rfl rfl ?_
    iterate 5 refine Xe rfl rfl rfl rfl rfl ?_
    refine wpo_pickf (v := .bool false) rfl rfl rfl rfl ?_
    refine wpo_move (v := .bool false) rfl rfl ?_
    iterate 5 refine Xe rfl rfl rfl rfl rfl ?_
    refine wpo_pickf (v := .bool false) rfl rfl rfl rfl ?_
    refine wpo_assign (v := .bool false) rfl rfl ?_
    exact wpo_nil ⟨(congrArg Value.bool (by first | (simp only [h120, h122, b0, b1, b2, b3, b4, b5, b6, b7, b8, b9]; done) | simp [h120, h122])), (World.grownBy.refl _ _)⟩
  ·
   have h145 := of_decide_eq_false h120
   iterate 5 refine Xe rfl rfl rfl h120 rfl ?_
   refine wpo_pickf (v := .bool false) rfl h120 rfl rfl ?_
   refine wpo_move (v := .bool false) rfl rfl ?_
   iterate 5 refine Xe rfl rfl rfl rfl rfl ?_
   refine wpo_pickf (v := .bool false) rfl rfl rfl rfl ?_
   refine wpo_move (v := .bool false) rfl rfl ?_
   iterate 5 refine Xe rfl rfl rfl rfl rfl ?_
   refine wpo_pickf (v := .bool false) rfl rfl rfl rfl ?_
   refine wpo_move (v := .bool false) rfl rfl ?_
   iterate 5 refine Xe rfl rfl rfl rfl rfl ?_
   refine wpo_pickf (v := .bool false) rfl rfl rfl rfl ?_
   refine wpo_move (v := .bool false) rfl rfl ?_
   iterate 5 refine Xe rfl rfl rfl rfl rfl ?_
   refine wpo_pickf (v := .bool false) rfl rfl rfl rfl ?_
   refine wpo_move (v := .bool false) rfl rfl ?_
   iterate 5 refine Xe rfl rfl rfl rfl rfl ?_
   refine wpo_pickf (v := .bool false) rfl rfl rfl rfl ?_
   refine wpo_assign (v := .bool false) rfl rfl ?_
   exact wpo_nil ⟨(congrArg Value.bool (by first | (simp only [h120, b0, b1, b2, b3, b4, b5, b6, b7, b8, b9]; done) | simp [h120])), (World.grownBy.refl _ _)⟩
 ·
  rintro f146 w147 ⟨e148, hg149⟩
  have hb150 := low0 hb108 hg149
  refine Xk ?_
  refine ⟨.bool (((((((decide (m.t.kind = p.t.kind)) && (decide (m.t.lab = p.t.lab))) && (decide (m.t.ve = p.t.ve))) && (decide (m.t.num = p.t.num))) && (decide (m.t.to = p.t.to))) && (decide (m.t.slots = p.t.slots))) && (decide (m.t.queue = p.t.queue))), res1 rfl e148, ?_, hb150⟩
  exact congrArg Value.bool D9
theorem Si [Comp] [ViewRule] (l : Lab) (w : World) (ms ps : List MTh) (a b : Option Addr) (c e : Nat) (ht : TabAt w a ms) (hp : TabAt w b ps) (hlen : TabLen ms) (hlep : TabLen ps) (hn : ms.length ≤ 1048576) (hm : ps.length ≤ 1048576) (hKB : ViewRule.base ≤ w.heap.size) : CallsR Try.prog 24 #[.slice a ms.length c, .slice b ps.length e, .agg #[.int .i64 l.s, .int .i64 l.v]] w (fun v w' => v = .bool (viewSame (tabT ms) (tabT ps) l) ∧ w.grownBy w' none) := by
 refine Xl (n := 52) Try.func24 rfl Try.ntmps24 rfl ?_
 have hb0 := World.grownBy.refl w none
 refine Xa ?_
 refine wpo_box (v := .agg #[.int .i64 l.s, .int .i64 l.v]) (cs := #[.int .i64 l.s, .int .i64 l.v]) rfl rfl rfl ?_
 intro B101 w102 hN103
 have hlB101 := Xv hN103 hb0
 have hb104 := low0 hb0 hN103.grw
 refine wpo_assign (v := .bool false) rfl rfl ?_
 refine wpo_nil ?_
 refine Xh ?_
 refine Xt (fun f' w' => (f' 0 = .slice a ms.length c ∧ f' 1 = .slice b ps.length e ∧ f' 5 = .pointer (some ⟨B101, 0, none⟩) ∧ f' 6 = .bool false ∧ f' 29 = .bool ((((!tableOk (tabT ms)) || (!tableOk (tabT ps))) || (!labelOk l)) || (!(decide ((ms.length : Int) = (ps.length : Int)))))) ∧ w102.grownBy w' none) ?_ ?_
 ·
  refine wpo_move (v := .slice a ms.length c) rfl rfl ?_
  refine Xi (vs := [.slice a ms.length c]) I7 (Xc rfl Xg) rfl (Gc  _ ms _ _ (TabAt.low ht hb104) hlen (by omega)) ?_
  rintro _ w118 ⟨rfl, hg119⟩
  have hb120 := low0 hb104 hg119
  refine wpo_not (b' := !tableOk (tabT ms)) rfl rfl rfl ?_
  refine wpo_move (v := .bool (!tableOk (tabT ms))) rfl rfl ?_
  rcases X2 (!tableOk (tabT ms)) with h121 | h121
  ·
   have h122 := Qi h121
   iterate 3 refine Xe rfl rfl rfl h121 rfl ?_
   refine wpo_pickt (v := .bool true) rfl h121 rfl rfl ?_
   refine wpo_move (v := .bool true) rfl rfl ?_
   iterate 3 refine Xe rfl rfl rfl rfl rfl ?_
   refine wpo_pickt (v := .bool true) rfl rfl rfl rfl ?_
   refine wpo_move (v := .bool true) rfl rfl ?_
   iterate 5 refine Xe rfl rfl rfl rfl rfl ?_
   refine wpo_pickt (v := .bool true) rfl rfl rfl rfl ?_
   exact wpo_nil ⟨⟨rfl, rfl, rfl, rfl, (congrArg Value.bool (by first | (simp only [h121, h122, b0, b1, b2, b3, b4, b5, b6, b7, b8, b9]; done) | simp [h121, h122]))⟩, hg119⟩
  ·
   have h123 := Y5 h121
   refine Xb rfl rfl rfl h121 ?_
   refine wpo_move (v := .slice b ps.length e) rfl rfl ?_
   refine Xb rfl rfl rfl h121 ?_
   refine Xi (vs := [.slice b ps.length e]) I7 (Xc rfl Xg) rfl (Gc  _ ps _ _ (TabAt.low hp hb120) hlep (by omega)) ?_
   rintro _ w124 ⟨rfl, hg125⟩
   have hb126 := low0 hb120 hg125
   refine Xb rfl rfl rfl h121 ?_
   refine wpo_not (b' := !tableOk (tabT ps)) rfl rfl rfl ?_
   refine wpo_pickf (v := .bool (!tableOk (tabT ps))) rfl h121 rfl rfl ?_
   refine wpo_move (v := .bool (!tableOk (tabT ps))) rfl rfl ?_
   rcases X2 (!tableOk (tabT ps)) with h127 | h127
   ·
    have h128 := Qi h127
    iterate 3 refine Xe rfl rfl rfl h127 rfl ?_
    refine wpo_pickt (v := .bool true) rfl h127 rfl rfl ?_
    refine wpo_move (v := .bool true) rfl rfl ?_
    iterate 5 refine Xe rfl rfl rfl rfl rfl ?_
    refine wpo_pickt (v := .bool true) rfl rfl rfl rfl ?_
    exact wpo_nil ⟨⟨rfl, rfl, rfl, rfl, (congrArg Value.bool (by first | (simp only [h121, h123, h127, h128, b0, b1, b2, b3, b4, b5, b6, b7, b8, b9]; done) | simp [h121, h123, h127, h128]))⟩, (Xj hg119 hg125)⟩
   ·
    have h129 := Y5 h127
    refine Xb rfl rfl rfl h127 ?_
    have k130 := ((hN103.blk.grown0 hg119).grown0 hg125)
    refine wpo_loadn (vs := [.int .i64 l.s, .int .i64 l.v]) Qg rfl rfl (k130.rangeL 0 2 rfl) rfl ?_
    refine Xb rfl rfl rfl h127 ?_
    refine Xi (vs := [.agg #[.int .i64 l.s, .int .i64 l.v]]) T7 (Xc rfl Xg) rfl (Vd l _) ?_
    rintro _ w131 ⟨rfl, hg132⟩
    have hb133 := low0 hb126 hg132
    refine Xb rfl rfl rfl h127 ?_
    refine wpo_not (b' := !labelOk l) rfl rfl rfl ?_
    refine wpo_pickf (v := .bool (!labelOk l)) rfl h127 rfl rfl ?_
    refine wpo_move (v := .bool (!labelOk l)) rfl rfl ?_
    rcases X2 (!labelOk l) with h134 | h134
    ·
     have h135 := Qi h134
     iterate 5 refine Xe rfl rfl rfl h134 rfl ?_
     refine wpo_pickt (v := .bool true) rfl h134 rfl rfl ?_
     exact wpo_nil ⟨⟨rfl, rfl, rfl, rfl, (congrArg Value.bool (by first | (simp only [h121, h123, h127, h129, h134, h135, b0, b1, b2, b3, b4, b5, b6, b7, b8, b9]; done) | simp [h121, h123, h127, h129, h134, h135]))⟩, (Xj (Xj hg119 hg125) hg132)⟩
    ·
     have h136 := Y5 h134
     refine Xb rfl rfl rfl h134 ?_
     refine wpo_move (v := .slice a ms.length c) rfl rfl ?_
     refine Xb rfl rfl rfl h134 ?_
     refine wpo_len (by kernel_rfl) rfl rfl ?_
     refine Xb rfl rfl rfl h134 ?_
     refine wpo_move (v := .slice b ps.length e) rfl rfl ?_
     refine Xb rfl rfl rfl h134 ?_
     refine wpo_len (by kernel_rfl) rfl rfl ?_
     refine Xb rfl rfl rfl h134 ?_
     refine wpo_neq (q := !(decide ((ms.length : Int) = (ps.length : Int)))) rfl rfl rfl rfl ?_
     refine wpo_pickf (v := .bool (!(decide ((ms.length : Int) = (ps.length : Int))))) rfl h134 rfl rfl ?_
     exact wpo_nil ⟨⟨rfl, rfl, rfl, rfl, (congrArg Value.bool (by first | (simp only [h121, h123, h127, h129, h134, h136, b0, b1, b2, b3, b4, b5, b6, b7, b8, b9]; done) | simp [h121, h123, h127, h129, h134, h136]))⟩, (Xj (Xj hg119 hg125) hg132)⟩
 ·
  rintro f137 w138 ⟨⟨e139, e140, e141, e142, e143⟩, hg144⟩
  have hb145 := low0 hb104 hg144
  refine Xp e143 (fun h146 => ?_) (fun h146 => ?_)
  ·
   refine Xa ?_
   refine wpo_assign (v := .bool false) rfl rfl ?_
   refine wpo_nil ?_
   refine Xk ?_
   refine Xy ?_
   refine ⟨.bool false, res1 rfl rfl, ?_, hb145⟩
   exact congrArg Value.bool (Sb h146)
  ·
   have h147 := Vn h146
   have h148 := Vn h147
   have h149 := Vn h148
   have h150 := Y5 h149
   have h151 := Vo h148
   have h152 := Y5 h151
   have h153 := Vo h147
   have h154 := Y5 h153
   have h155 := Vo h146
   have h156 := Y5 h155
   have h157 := of_decide_eq_true h156
   refine Xm ?_
   refine Xo ?_
   refine Xh ?_
   refine J7 (m := 5) [[], [], [0, 1], [], [], [0, 1, 2, 3, 4], [0, 1, 2, 3, 4, 5], [0, 1, 2, 3, 4, 5, 6]] (fun S F w' => ∃ (us231 : List MTh) (a232 : Option Addr) (cap233 : Nat), w138.grownBy w' none ∧ F 0 = .slice a ms.length c ∧ F 1 = .slice b ps.length e ∧ F 5 = .pointer (some ⟨B101, 0, none⟩) ∧ F 6 = .bool false ∧ (S 2 = true → F 32 = .slice a232 us231.length cap233 ∧ tabT us231 = viewTab (tabT ms) l ∧ TabLen us231 ∧ us231.length ≤ ms.length ∧ (a232 = none → cap233 = 0) ∧ TabAt w' (a232) us231) ∧ Vals S F [(0, 30, .slice a ms.length c), (1, 31, .agg #[.int .i64 l.s, .int .i64 l.v]), (3, 33, .slice b ps.length e), (4, 34, .agg #[.int .i64 l.s, .int .i64 l.v])]) Qd (by kernel_rfl) ⟨[], none, 0, X4 _, e139, e140, e141, e142, Qw, Ug _⟩ ?_ ?_
   ·
    refine Xn (fun S F w243 hS hbef hcl hI => ?_) ?_
    ·
     obtain ⟨us231, a232, cap233, hi244, e245, e246, e247, e248, c_2, hvs⟩ := hI
     have hb249 := low0 hb145 hi244
     refine wpo_move (v := .slice a ms.length c) e245 rfl ?_
     exact wpo_nil ⟨us231, a232, cap233, hi244, e245, e246, e247, e248, fun h => Xq 2 hS hcl rfl h, Vals.up 0 hvs rfl rfl rfl⟩
    refine Xn (fun S F w250 hS hbef hcl hI => ?_) ?_
    ·
     obtain ⟨us231, a232, cap233, hi251, e252, e253, e254, e255, c_2, hvs⟩ := hI
     have hb256 := low0 hb145 hi251
     have k257 := ((hN103.blk.grown0 hg144).grown0 hi251)
     refine wpo_loadn (vs := [.int .i64 l.s, .int .i64 l.v]) Qg e254 rfl (k257.rangeL 0 2 rfl) rfl ?_
     exact wpo_nil ⟨us231, a232, cap233, hi251, e252, e253, e254, e255, fun h => Xq 2 hS hcl rfl h, Vals.up 1 hvs rfl rfl rfl⟩
    refine Xn (fun S F w258 hS hbef hcl hI => ?_) ?_
    ·
     obtain ⟨us231, a232, cap233, hi259, e260, e261, e262, e263, c_2, hvs⟩ := hI
     have hb264 := low0 hb145 hi259
     have ev265 := Vals.at 0 hvs rfl (Xf 0 hbef rfl)
     have ev266 := Vals.at 1 hvs rfl (Xf 1 hbef rfl)
     refine Xi (vs := [.slice a ms.length c, .agg #[.int .i64 l.s, .int .i64 l.v]]) I4 (Xc ev265 (Xc ev266 Xg)) rfl (ViewRule.rule _ ms _ _ l (Nat.le_trans hKB hb264.size) (TabAt.low ht hb264) hlen (by omega)) ?_
     rintro _ w274 ⟨us267, a268, cap269, rfl, he270, hT271, hnc272, hg273⟩
     have hb277 := low0 hb264 hg273
     have hTl275 := Kq he270 hlen
     have hll276 := Vv he270
     exact wpo_nil ⟨us267, a268, cap269, (low0 hi259 hg273), e260, e261, e262, e263, fun _ => ⟨rfl, he270, hTl275, hll276, hnc272, hT271⟩, Vals.keep hvs rfl⟩
    refine Xn (fun S F w278 hS hbef hcl hI => ?_) ?_
    ·
     obtain ⟨us231, a232, cap233, hi279, e280, e281, e282, e283, c_2, hvs⟩ := hI
     have hb284 := low0 hb145 hi279
     refine wpo_move (v := .slice b ps.length e) e281 rfl ?_
     exact wpo_nil ⟨us231, a232, cap233, hi279, e280, e281, e282, e283, c_2, Vals.up 2 hvs rfl rfl rfl⟩
    refine Xn (fun S F w285 hS hbef hcl hI => ?_) ?_
    ·
     obtain ⟨us231, a232, cap233, hi286, e287, e288, e289, e290, c_2, hvs⟩ := hI
     have hb291 := low0 hb145 hi286
     have k292 := ((hN103.blk.grown0 hg144).grown0 hi286)
     refine wpo_loadn (vs := [.int .i64 l.s, .int .i64 l.v]) Qg e289 rfl (k292.rangeL 0 2 rfl) rfl ?_
     exact wpo_nil ⟨us231, a232, cap233, hi286, e287, e288, e289, e290, c_2, Vals.up 3 hvs rfl rfl rfl⟩
    exact Kh
   ·
    intro S F w293 hall hI
    obtain ⟨us231, a232, cap233, hi294, e295, e296, e297, e298, c_2, hvs⟩ := hI
    have hb299 := low0 hb145 hi294
    have ev300 := Vals.at 0 hvs rfl (hall 0 (by decide))
    have ev301 := Vals.at 1 hvs rfl (hall 1 (by decide))
    obtain ⟨e302, he234, hTl239, hll240, hnc236, hT235⟩ := c_2 (hall 2 (by decide))
    have ev303 := Vals.at 2 hvs rfl (hall 3 (by decide))
    have ev304 := Vals.at 3 hvs rfl (hall 4 (by decide))
    refine Xi (vs := [.slice b ps.length e, .agg #[.int .i64 l.s, .int .i64 l.v]]) I4 (Xc ev303 (Xc ev304 Xg)) rfl (ViewRule.rule _ ps _ _ l (Nat.le_trans hKB hb299.size) (TabAt.low hp hb299) hlep (by omega)) ?_
    rintro _ w312 ⟨us305, a306, cap307, rfl, he308, hT309, hnc310, hg311⟩
    have hb315 := low0 hb299 hg311
    have hTl313 := Kq he308 hlep
    have hll314 := Vv he308
    refine wpo_assign (v := .slice a232 us231.length cap233) e302 rfl ?_
    refine wpo_assign (v := .slice a306 us305.length cap307) rfl rfl ?_
    refine wpo_nil ?_
    refine Xo ?_
    refine Xh ?_
    refine Xa ?_
    refine wpo_move (v := .slice a232 us231.length cap233) rfl rfl ?_
    refine wpo_len (by kernel_rfl) rfl rfl ?_
    refine wpo_move (v := .int .i64 0) rfl rfl ?_
    refine wpo_nil ?_
    refine Xu ?_
    refine Yf (fun mm f' w' => ∃ (i : Nat), mm = us231.length - i ∧ i ≤ us231.length ∧ (tabT us231).take i = (tabT us305).take i ∧ w312.grownBy w' none ∧ f' 38 = .int .i64 (i : Int) ∧ f' 7 = .slice a232 us231.length cap233 ∧ f' 8 = .slice a306 us305.length cap307 ∧ f' 37 = .int .i64 (us231.length : Int) ∧ w.grownBy w' none) (us231.length - 0) ⟨0, rfl, (Nat.zero_le _), rfl, (World.grownBy.refl _ none), rfl, rfl, rfl, rfl, hb315⟩ ?_
    rintro mm f317 w318 ⟨i, hm320, hi, ha, hgl316, e321, e322, e323, e324, hb319⟩
    have heq := Jm he234 h150 h154
    have heq2 := Jm he308 h152 h154
    refine Xa ?_
    refine wpo_lss (q := decide ((i : Int) < (us231.length : Int))) e321 e324 rfl rfl ?_
    refine wpo_nil ?_
    refine Xh ?_
    refine Xp rfl (fun h325 => ?_) (fun h325 => ?_)
    ·
     have h326 := of_decide_eq_true h325
     refine Xm ?_
     refine Xo ?_
     refine Xh ?_
     refine Xu ?_
     refine Xa ?_
     refine wpo_move (v := .int .i64 (i : Int)) e321 rfl ?_
     refine wpo_assign (v := .int .i64 (i : Int)) rfl rfl ?_
     refine wpo_nil ?_
     refine Xh ?_
     obtain ⟨b371, q372, o373, ha374, ho375, hr376⟩ := SlAt.at (TabAt.low hT235 (Xj hg311 hgl316)).1 (Yc (Xx (show i < us231.length by omega)))
     have hle377 := TabLen.at hTl239 (Xx (show i < us231.length by omega))
     obtain ⟨b380, q381, o382, ha383, ho384, hr385⟩ := SlAt.at (TabAt.low hT309 hgl316).1 (Yc (Xx (show i < us305.length by omega)))
     have hle386 := TabLen.at hTl313 (Xx (show i < us305.length by omega))
     refine Yx (m := 8) (vals := [(41, .slice a232 us231.length cap233), (42, .int .i64 (i : Int)), (43, .pointer (some ⟨b371, o373, none⟩)), (44, .agg #[.int .i64 ((mAt us231 i).t.kind), .int .i64 ((mAt us231 i).t.lab.s), .int .i64 ((mAt us231 i).t.lab.v), .int .i64 ((mAt us231 i).t.ve), .int .i64 ((mAt us231 i).t.num), .slice ((mAt us231 i).sa) ((mAt us231 i).t.slots.length) ((mAt us231 i).sc), .slice ((mAt us231 i).qa) ((mAt us231 i).t.queue.length) ((mAt us231 i).qc), .int .i64 ((mAt us231 i).t.to)]), (45, .slice a306 us305.length cap307), (46, .int .i64 (i : Int)), (47, .pointer (some ⟨b380, o382, none⟩)), (48, .agg #[.int .i64 ((mAt us305 i).t.kind), .int .i64 ((mAt us305 i).t.lab.s), .int .i64 ((mAt us305 i).t.lab.v), .int .i64 ((mAt us305 i).t.ve), .int .i64 ((mAt us305 i).t.num), .slice ((mAt us305 i).sa) ((mAt us305 i).t.slots.length) ((mAt us305 i).sc), .slice ((mAt us305 i).qa) ((mAt us305 i).t.queue.length) ((mAt us305 i).qc), .int .i64 ((mAt us305 i).t.to)])]) (fun w' => w318.grownBy w' none) Qd (by kernel_rfl) (X4 _) ?_ ?_
     ·
      refine Xd rfl (fun w390 hi391 => ?_) ?_
      ·
       have hb392 := low0 hb319 hi391
       refine wpo_move (v := .slice a232 us231.length cap233) e322 rfl ?_
       exact wpo_nil ⟨rfl, hi391⟩
      refine Xd rfl (fun w393 hi394 => ?_) ?_
      ·
       have hb395 := low0 hb319 hi394
       refine wpo_move (v := .int .i64 (i : Int)) rfl rfl ?_
       exact wpo_nil ⟨rfl, hi394⟩
      refine Xd rfl (fun w396 hi397 => ?_) ?_
      ·
       have hb398 := low0 hb319 hi397
       refine Xz Jf rfl rfl ha374 ho375 (by omega) (by omega) rfl ?_
       exact wpo_nil ⟨rfl, hi397⟩
      refine Xd rfl (fun w399 hi400 => ?_) ?_
      ·
       have hb401 := low0 hb319 hi400
       refine wpo_loadn (vs := [.int .i64 ((mAt us231 i).t.kind), .int .i64 ((mAt us231 i).t.lab.s), .int .i64 ((mAt us231 i).t.lab.v), .int .i64 ((mAt us231 i).t.ve), .int .i64 ((mAt us231 i).t.num), .slice ((mAt us231 i).sa) ((mAt us231 i).t.slots.length) ((mAt us231 i).sc), .slice ((mAt us231 i).qa) ((mAt us231 i).t.queue.length) ((mAt us231 i).qc), .int .i64 ((mAt us231 i).t.to)]) X5 rfl rfl (Yq (Yd hr376 hi400) 0 8 rfl) rfl ?_
       exact wpo_nil ⟨rfl, hi400⟩
      refine Xd rfl (fun w402 hi403 => ?_) ?_
      ·
       have hb404 := low0 hb319 hi403
       refine wpo_move (v := .slice a306 us305.length cap307) e323 rfl ?_
       exact wpo_nil ⟨rfl, hi403⟩
      refine Xd rfl (fun w405 hi406 => ?_) ?_
      ·
       have hb407 := low0 hb319 hi406
       refine wpo_move (v := .int .i64 (i : Int)) rfl rfl ?_
       exact wpo_nil ⟨rfl, hi406⟩
      refine Xd rfl (fun w408 hi409 => ?_) ?_
      ·
       have hb410 := low0 hb319 hi409
       refine Xz Jf rfl rfl ha383 ho384 (by omega) (by omega) rfl ?_
       exact wpo_nil ⟨rfl, hi409⟩
      refine Xd rfl (fun w411 hi412 => ?_) ?_
      ·
       have hb413 := low0 hb319 hi412
       refine wpo_loadn (vs := [.int .i64 ((mAt us305 i).t.kind), .int .i64 ((mAt us305 i).t.lab.s), .int .i64 ((mAt us305 i).t.lab.v), .int .i64 ((mAt us305 i).t.ve), .int .i64 ((mAt us305 i).t.num), .slice ((mAt us305 i).sa) ((mAt us305 i).t.slots.length) ((mAt us305 i).sc), .slice ((mAt us305 i).qa) ((mAt us305 i).t.queue.length) ((mAt us305 i).qc), .int .i64 ((mAt us305 i).t.to)]) X5 rfl rfl (Yq (Yd hr385 hi412) 0 8 rfl) rfl ?_
       exact wpo_nil ⟨rfl, hi412⟩
      exact Qc
     ·
      intro w414 hi415
      have hb416 := low0 hb319 hi415
      refine Xi (vs := [.agg #[.int .i64 ((mAt us231 i).t.kind), .int .i64 ((mAt us231 i).t.lab.s), .int .i64 ((mAt us231 i).t.lab.v), .int .i64 ((mAt us231 i).t.ve), .int .i64 ((mAt us231 i).t.num), .slice ((mAt us231 i).sa) ((mAt us231 i).t.slots.length) ((mAt us231 i).sc), .slice ((mAt us231 i).qa) ((mAt us231 i).t.queue.length) ((mAt us231 i).qc), .int .i64 ((mAt us231 i).t.to)], .agg #[.int .i64 ((mAt us305 i).t.kind), .int .i64 ((mAt us305 i).t.lab.s), .int .i64 ((mAt us305 i).t.lab.v), .int .i64 ((mAt us305 i).t.ve), .int .i64 ((mAt us305 i).t.num), .slice ((mAt us305 i).sa) ((mAt us305 i).t.slots.length) ((mAt us305 i).sc), .slice ((mAt us305 i).qa) ((mAt us305 i).t.queue.length) ((mAt us305 i).qc), .int .i64 ((mAt us305 i).t.to)]]) Xav (Xc rfl (Xc rfl Xg)) rfl (R0 (mAt us231 i) (mAt us305 i) _ (TabAt.th (TabAt.low hT235 (Xj (Xj hg311 hgl316) hi415)) (Xx (show i < us231.length by omega))) (TabAt.th (TabAt.low hT309 (Xj hgl316 hi415)) (Xx (show i < us305.length by omega))) ⟨by first | omega | exact Nat.le_of_ble_eq_true rfl | (simp only [List.length_nil, List.length_cons, List.length_append, List.length_replicate]; omega), by first | omega | exact Nat.le_of_ble_eq_true rfl | (simp only [List.length_nil, List.length_cons, List.length_append, List.length_replicate]; omega)⟩ ⟨by first | omega | exact Nat.le_of_ble_eq_true rfl | (simp only [List.length_nil, List.length_cons, List.length_append, List.length_replicate]; omega), by first | omega | exact Nat.le_of_ble_eq_true rfl | (simp only [List.length_nil, List.length_cons, List.length_append, List.length_replicate]; omega)⟩) ?_
      rintro _ w417 ⟨rfl, hg418⟩
      have hb419 := low0 hb416 hg418
      refine wpo_not (b' := !(decide ((mAt us231 i).t = (mAt us305 i).t))) rfl rfl rfl ?_
      refine wpo_nil ?_
      refine Xo ?_
      refine Xp rfl (fun h420 => ?_) (fun h420 => ?_)
      ·
       have h421 := Qi h420
       have h422 := of_decide_eq_false h421
       refine Xa ?_
       refine wpo_assign (v := .bool false) rfl rfl ?_
       refine wpo_nil ?_
       refine Xk ?_
       refine Y4 ?_
       refine Xy ?_
       refine Xy ?_
       refine Y4 ?_
       refine Xy ?_
       refine ⟨.bool false, res1 rfl rfl, ?_, hb419⟩
       exact congrArg Value.bool (Sa (i := i) he234 he308 (of_decide_eq_false h421))
      ·
       have h423 := Y5 h420
       have h424 := of_decide_eq_true h423
       refine Xm ?_
       refine Je ?_
       refine Xo ?_
       refine Xs ?_
       refine wpo_add (c := (i : Int) + 1) e321 rfl (by omega) (by omega) (by omega) rfl ?_
       refine wpo_move (v := .int .i64 ((i : Int) + 1)) rfl rfl ?_
       refine wpo_nil ?_
       refine Xo ?_
       exact ⟨us231.length - (i + 1), by omega, (i + 1), rfl, (by omega), (B9 ha (by omega) (by omega) (of_decide_eq_true h423)), (low0 (low0 hgl316 hi415) hg418), rfl, e322, e323, e324, hb419⟩
    ·
     have h425 := of_decide_eq_false h325
     refine Yo ?_
     refine Yz ?_
     refine Yz ?_
     refine Jn ?_
     refine Xo ?_
     refine Xa ?_
     refine wpo_assign (v := .bool true) rfl rfl ?_
     refine wpo_nil ?_
     refine Xk ?_
     refine ⟨.bool true, res1 rfl rfl, ?_, hb319⟩
     exact congrArg Value.bool (Pd he234 he308 h150 h152 h154 (by omega) ha (by omega))
end Go.Dw.J
end
section
namespace Go.Dw.J
open Go.RowKit Go.Dw Go.Proofs
set_option linter.unusedSectionVars false
set_option linter.unusedSimpArgs false
set_option linter.unusedVariables false
theorem G1 {P : Program} (a : Addr) (l c : Nat) : Quiet P (Conv.bytesToString (.slice (some a) l c)) := by
  unfold Conv.bytesToString
  refine qb (Yh _ _) fun cs => qb (W5 (fun v b => ?_) _ _) fun _ => qp _
  split
  · exact qp _
  · exact qb (Y2 _) fun _ => qp _
theorem Rn {P : Program} {s t e : TypeId} {a : Addr} {l c : Nat} (hs : P.underlying s = some (.slice e)) (he : P.underlying e = some (.int .u8)) (ht : P.underlying t = some .string) : Quiet P (convert s t (.slice (some a) l c)) := by
  unfold convert
  refine qby (X0 _) (Q6 hs) fun u hu => qby (X0 _) (Q6 ht) fun u2 hu2 => ?_
  subst hu
  subst hu2
  refine qby (X0 _) (Q6 he) fun u3 hu3 => ?_
  subst hu3
  exact G1 _ _ _
def LoadsAs (w : World) (b len : Nat) (ns : List Int) : Prop := ∃ (T : TypeId) (cs : Array Value), Blk w b T cs ∧ cs = (ns.map (Value.int .u8)).toArray ∧ ns.length = len
theorem load_blk {w : World} {b T len : Nat} {cs : Array Value} {ns : List Int} (h : Blk w b T cs) (hn : cs = (ns.map (Value.int .u8)).toArray) (hl : ns.length = len) : LoadsAs w b len ns := ⟨T, cs, h, hn, hl⟩
section
variable [Comp] {P : Program} {n : Nat} {ops : Array Oper} {K : Fr → World → Prop} {l : List Oper} {f : Fr} {w w' : World} {d : Nat} {ty : TypeId} {pos : String} {aft : Array Edge}
theorem wpo_bstr {s t e : TypeId} {x : Operand} {b len cap : Nat} {ns : List Int} (hx : ev f x = .slice (some ⟨b, 0, none⟩) len cap) (hs : P.underlying s = some (.slice e)) (he : P.underlying e = some (.int .u8)) (ht : P.underlying t = some .string)
    (hr : LoadsAs w b len ns) (hd : Nat.blt d n = true) (h : WpO P n ops K l (up f d (.string ⟨(ub ns).toArray⟩)) w) :
    WpO P n ops K (⟨some d, .convert s t x, ty, pos, aft, none⟩ :: l) f w :=
  jop rfl (by simp only [execOp, hx]; exact qv (Rn hs he ht)) (Yk _) fun A1 hE => Go.Dw.wpo_bstr hx hs he ht (let ⟨_, _, hb, hn, hl⟩ := hr; Go.Dw.load_blk (hE.blk hb) hn hl) hd (Go.Dw.wpo_nil (keep hE h))
end
end Go.Dw.J
end
section
namespace Go.Dw.J
open Go.RowKit Go.Dw Go.Proofs
set_option linter.unusedSectionVars false
set_option linter.unusedSimpArgs false
set_option linter.unusedVariables false
theorem Sq {c : UInt8} : ∀ {a b x y : List UInt8}, c ∉ a → c ∉ b → a ++ c :: x = b ++ c :: y → a = b ∧ x = y
  | [], [], x, y, _, _, h => ⟨rfl, by simpa using h⟩
  | [], d :: b, x, y, _, hb, h => by
    simp only [List.nil_append, List.cons_append, List.cons.injEq] at h
    exact absurd (h.1 ▸ List.mem_cons_self) hb
  | d :: a, [], x, y, ha, _, h => by
    simp only [List.nil_append, List.cons_append, List.cons.injEq] at h
    exact absurd (h.1 ▸ List.mem_cons_self) ha
  | d :: a, e :: b, x, y, ha, hb, h => by
    simp only [List.cons_append, List.cons.injEq] at h
    obtain ⟨rfl, h⟩ := h
    obtain ⟨rfl, rfl⟩ := Sq (fun hm => ha (List.mem_cons_of_mem _ hm)) (fun hm => hb (List.mem_cons_of_mem _ hm)) h
    exact ⟨rfl, rfl⟩
theorem Lr : ∀ {xs ys : List (List UInt8)}, (∀ x ∈ xs, (10 : UInt8) ∉ x) → (∀ y ∈ ys, (10 : UInt8) ∉ y) → xs.flatMap (· ++ [10]) = ys.flatMap (· ++ [10]) → xs = ys
  | [], [], _, _, _ => rfl
  | [], y :: ys, _, _, h => by simp at h
  | x :: xs, [], _, _, h => by simp at h
  | x :: xs, y :: ys, hx, hy, h => by
    simp only [List.flatMap_cons, List.append_assoc, List.cons_append, List.nil_append] at h
    obtain ⟨rfl, h2⟩ := Sq (hx x List.mem_cons_self) (hy y List.mem_cons_self) h
    rw [Lr (fun z hz => hx z (List.mem_cons_of_mem _ hz)) (fun z hz => hy z (List.mem_cons_of_mem _ hz)) h2]
theorem Ht (xs : List (List UInt8)) : ∃ t, xs.flatMap (32 :: ·) ++ [32] = (32 : UInt8) :: t := by
  cases xs with
  | nil => exact ⟨[], rfl⟩
  | cons x xs => exact ⟨_, rfl⟩
theorem Gv : ∀ {xs ys : List (List UInt8)}, (∀ x ∈ xs, (32 : UInt8) ∉ x) → (∀ y ∈ ys, (32 : UInt8) ∉ y) → xs.flatMap (32 :: ·) ++ [32] = ys.flatMap (32 :: ·) ++ [32] → xs = ys
  | [], [], _, _, _ => rfl
  | [], y :: ys, _, _, h => by
    have := congrArg List.length h
    simp at this
  | x :: xs, [], _, _, h => by
    have := congrArg List.length h
    simp at this
  | x :: xs, y :: ys, hx, hy, h => by
    obtain ⟨t, e1⟩ := Ht xs
    obtain ⟨u, e2⟩ := Ht ys
    simp only [List.flatMap_cons, List.append_assoc, List.cons_append, List.cons.injEq, true_and] at h
    rw [e1, e2] at h
    obtain ⟨rfl, h2⟩ := Sq (hx x List.mem_cons_self) (hy y List.mem_cons_self) h
    rw [Gv (xs := xs) (ys := ys) (fun z hz => hx z (List.mem_cons_of_mem _ hz)) (fun z hz => hy z (List.mem_cons_of_mem _ hz)) (by rw [e1, e2, h2])]
theorem Sx {xs ys : List (List UInt8)} (hx : ∀ x ∈ xs, (32 : UInt8) ∉ x) (hy : ∀ y ∈ ys, (32 : UInt8) ∉ y) (h : xs.flatMap (32 :: ·) = ys.flatMap (32 :: ·)) : xs = ys := Gv hx hy (by rw [h])
def undec : List UInt8 → Int
  | [a] => (a.toNat : Int) - 48
  | [45, a] => -((a.toNat : Int) - 48)
  | [a, b] => ((a.toNat : Int) - 48) * 10 + ((b.toNat : Int) - 48)
  | _ => 0
theorem E6 : ∀ k : _root_.Fin 109, undec (dec ((k.val : Int) - 9)) = (k.val : Int) - 9 ∧ (dec ((k.val : Int) - 9)).all (fun c => c == 45 || (48 ≤ c && c ≤ 57)) = true := by decide
theorem J8 {n : Int} (h : -9 ≤ n ∧ n ≤ 99) : undec (dec n) = n ∧ ∀ c ∈ dec n, c = 45 ∨ (48 ≤ c ∧ c ≤ 57) := by
  have h1 := E6 ⟨(n + 9).toNat, by omega⟩
  have e : ((n + 9).toNat : Int) - 9 = n := by omega
  simp only [e] at h1
  refine ⟨h1.1, fun c hc => ?_⟩
  have := List.all_eq_true.1 h1.2 c hc
  simpa using this
theorem Wm {n : Int} (h : -9 ≤ n ∧ n ≤ 99) {c : UInt8} (hc : c ≠ 45) (h2 : ¬ (48 ≤ c ∧ c ≤ 57)) : c ∉ dec n := fun hm => by
  rcases (J8 h).2 c hm with h3 | h3
  · exact hc h3
  · exact h2 h3
theorem G3 {n : Int} (h : 0 ≤ n ∧ n ≤ 9) : dec n = [dg n] := by
  rw [I2 h.1]
  unfold dec2
  rw [if_pos (by omega)]
theorem G4 {n : Int} (h : 0 ≤ n ∧ n ≤ 9) : ((dg n).toNat : Int) - 48 = n := by
  have h1 : n = 0 ∨ n = 1 ∨ n = 2 ∨ n = 3 ∨ n = 4 ∨ n = 5 ∨ n = 6 ∨ n = 7 ∨ n = 8 ∨ n = 9 := by omega
  rcases h1 with rfl | rfl | rfl | rfl | rfl | rfl | rfl | rfl | rfl | rfl <;> decide
theorem Oy {n : Int} (h : 0 ≤ n ∧ n ≤ 9) : 48 ≤ dg n ∧ dg n ≤ 57 := by
  have h1 : n = 0 ∨ n = 1 ∨ n = 2 ∨ n = 3 ∨ n = 4 ∨ n = 5 ∨ n = 6 ∨ n = 7 ∨ n = 8 ∨ n = 9 := by omega
  rcases h1 with rfl | rfl | rfl | rfl | rfl | rfl | rfl | rfl | rfl | rfl <;> decide
def unl : List UInt8 → Lab
  | [a, _, b] => ⟨(a.toNat : Int) - 48, (b.toNat : Int) - 48⟩
  | _ => ⟨0, 0⟩
theorem P8 {l : Lab} (h : labelOk l = true) : labtx l = [dg l.s, 47, dg l.v] := by
  obtain ⟨h1, h2⟩ := (Q2 l).1 h
  unfold labtx
  rw [if_pos h, G3 (by omega), G3 (by omega)]; rfl
theorem P7 {l : Lab} (h : labelOk l = true) : unl (labtx l) = l := by
  obtain ⟨h1, h2⟩ := (Q2 l).1 h
  rw [P8 h]
  show (⟨((dg l.s).toNat : Int) - 48, ((dg l.v).toNat : Int) - 48⟩ : Lab) = l
  rw [G4 (by omega), G4 (by omega)]
theorem Ng {n : Int} (h : 0 ≤ n ∧ n ≤ 9) {c : UInt8} (h2 : ¬ (48 ≤ c ∧ c ≤ 57)) : c ≠ dg n := fun e => h2 (e ▸ Oy h)
theorem M8 {l : Lab} (h : labelOk l = true) {c : UInt8} (h1 : c ≠ 47) (h2 : ¬ (48 ≤ c ∧ c ≤ 57)) : c ∉ labtx l := by
  obtain ⟨h3, h4⟩ := (Q2 l).1 h
  rw [P8 h]
  simp only [List.mem_cons, List.not_mem_nil, or_false, not_or]
  exact ⟨Ng (by omega) h2, h1, Ng (by omega) h2⟩
def unr : List UInt8 → Rt
  | [a, _, b, x, y, z] => ⟨(a.toNat : Int) - 48, (b.toNat : Int) - 48, x == 114, y == 119, z == 107⟩
  | _ => Rt.zero
theorem D7 {r : Rt} (h : rightOk r = true) (hz : r.th ≠ 0) : rtx r = [dg r.th, 46, dg r.ve, if r.rd = true then 114 else 45, if r.wr = true then 119 else 45, if r.wk = true then 107 else 45] := by
  have h1 := Uy h
  unfold rtx flg
  rw [if_pos h, if_neg hz, G3 (by omega), G3 (by omega)]
  cases r.rd <;> cases r.wr <;> cases r.wk <;> rfl
theorem Mj {r : Rt} (h : rightOk r = true) : unr (rtx r) = r := by
  by_cases hz : r.th = 0
  · unfold rtx
    rw [if_pos h, if_pos hz]
    unfold rightOk at h
    rw [Bool.or_eq_true] at h
    rcases h with h | h
    · exact (of_decide_eq_true h).symm
    · simp only [Bool.and_eq_true] at h
      have := (Q9.1 h.1.1).1
      omega
  · have h1 := Uy h
    rw [D7 h hz]
    show (⟨((dg r.th).toNat : Int) - 48, ((dg r.ve).toNat : Int) - 48, _, _, _⟩ : Rt) = r
    rw [G4 (by omega), G4 (by omega)]
    obtain ⟨a, b, x, y, z⟩ := r
    cases x <;> cases y <;> cases z <;> rfl
theorem Ia {r : Rt} (h : rightOk r = true) {c : UInt8} (hc : c ≠ 45 ∧ c ≠ 46 ∧ c ≠ 114 ∧ c ≠ 119 ∧ c ≠ 107) (h2 : ¬ (48 ≤ c ∧ c ≤ 57)) : c ∉ rtx r := by
  by_cases hz : r.th = 0
  · unfold rtx
    rw [if_pos h, if_pos hz]
    simp [hc.1]
  · have h1 := Uy h
    rw [D7 h hz]
    simp only [List.mem_cons, List.not_mem_nil, or_false, not_or]
    refine ⟨Ng (by omega) h2, hc.2.1, Ng (by omega) h2, ?_, ?_, ?_⟩
    · split; exact hc.2.2.1; exact hc.1
    · split; exact hc.2.2.2.1; exact hc.1
    · split; exact hc.2.2.2.2; exact hc.1
def unk : List UInt8 → Int
  | [112, 97, 103, 101] => 1
  | [110, 111, 100, 101] => 2
  | [114, 117, 110] => 3
  | [112, 105, 112, 101] => 4
  | [103, 97, 116, 101] => 5
  | _ => 0
theorem G6 {k : Int} (h : 1 ≤ k ∧ k ≤ 5) : unk (kname k) = k ∧ (10 : UInt8) ∉ kname k ∧ (32 : UInt8) ∉ kname k := by
  have h1 : k = 1 ∨ k = 2 ∨ k = 3 ∨ k = 4 ∨ k = 5 := by omega
  rcases h1 with rfl | rfl | rfl | rfl | rfl <;> decide
def fl (t : Th) : List (List UInt8) := kname t.kind :: labtx t.lab :: dec t.ve :: dec t.num :: (t.slots.map rtx ++ (t.queue.map (fun n => 60 :: dec n) ++ (if t.kind = 5 then [62 :: dec t.to] else [])))
theorem Ii (t : Th) : (32 : UInt8) :: thtx t = (fl t).flatMap (32 :: ·) ++ [10] := by
  unfold thtx bh3 ah3 hd3 fl
  split
  · simp [List.flatMap_map, Function.comp_def]
  · simp [List.flatMap_map, Function.comp_def]
theorem H9 {t : Th} (h : thingOk t = true) : ∀ r ∈ t.slots, rightOk r = true := by
  have h5 := (Qm h).2.2.2.2.1
  unfold slotsOk at h5
  split at h5
  · rw [Bool.and_eq_true] at h5
    exact List.all_eq_true.1 h5.2
  · have := of_decide_eq_true h5
    rw [List.eq_nil_of_length_eq_zero this]
    exact fun r hr => by cases hr
theorem Hu {t : Th} (h : thingOk t = true) {c : UInt8} (hc : c = 10 ∨ c = 32) : ∀ x ∈ fl t, c ∉ x := by
  obtain ⟨h1, h2, h3, h4, h5, h6, h7⟩ := Lf h
  have hl := (Qm h).2.1
  have hs := H9 h
  have hd : ¬ ((48 : UInt8) ≤ c ∧ c ≤ 57) := by rcases hc with rfl | rfl <;> decide
  have h45 : c ≠ 45 := by rcases hc with rfl | rfl <;> decide
  intro x hx
  unfold fl at hx
  simp only [List.mem_cons, List.mem_append, List.mem_map] at hx
  rcases hx with rfl | rfl | rfl | rfl | ⟨r, hr, rfl⟩ | ⟨n, hn, rfl⟩ | hx
  · rcases hc with rfl | rfl
    · exact (G6 h1).2.1
    · exact (G6 h1).2.2
  · exact M8 hl (by rcases hc with rfl | rfl <;> decide) hd
  · exact Wm (by omega) h45 hd
  · exact Wm (by omega) h45 hd
  · exact Ia (hs r hr) (by rcases hc with rfl | rfl <;> decide) hd
  · have := h7 n hn
    simp only [List.mem_cons, not_or]
    exact ⟨by rcases hc with rfl | rfl <;> decide, Wm (by omega) h45 hd⟩
  · split at hx
    · simp only [List.mem_cons, List.not_mem_nil, or_false] at hx
      subst hx
      simp only [List.mem_cons, not_or]
      exact ⟨by rcases hc with rfl | rfl <;> decide, Wm (by omega) h45 hd⟩
    · cases hx
theorem O6 {t u : Th} (ht : thingOk t = true) (hu : thingOk u = true) (h : fl t = fl u) : t = u := by
  obtain ⟨t1, t2, t3, t4, t5, t6, t7⟩ := Lf ht
  obtain ⟨u1, u2, u3, u4, u5, u6, u7⟩ := Lf hu
  obtain ⟨_, tl, _, _, ts, tq, tt⟩ := Qm ht
  obtain ⟨_, ul, _, _, us, uq, ut⟩ := Qm hu
  unfold fl at h
  simp only [List.cons.injEq] at h
  obtain ⟨hk, hl, hv, hn, hr⟩ := h
  have ek : t.kind = u.kind := by have := congrArg unk hk; rwa [(G6 t1).1, (G6 u1).1] at this
  have el : t.lab = u.lab := by have := congrArg unl hl; rwa [P7 tl, P7 ul] at this
  have ev : t.ve = u.ve := by have := congrArg undec hv; rwa [(J8 (by omega)).1, (J8 (by omega)).1] at this
  have en : t.num = u.num := by have := congrArg undec hn; rwa [(J8 (by omega)).1, (J8 (by omega)).1] at this
  have es : t.slots.length = u.slots.length := by
    unfold slotsOk at ts us
    rw [ek] at ts
    split at ts
    · rename_i h5
      rw [if_pos h5, Bool.and_eq_true] at us
      rw [Bool.and_eq_true] at ts
      rw [of_decide_eq_true ts.1, of_decide_eq_true us.1]
    · rename_i h5
      rw [if_neg h5] at us
      rw [of_decide_eq_true ts, of_decide_eq_true us]
  obtain ⟨e1, e2⟩ := List.append_inj hr (by rw [List.length_map, List.length_map, es])
  have eg : (if t.kind = 5 then [62 :: dec t.to] else []).length = (if u.kind = 5 then [62 :: dec u.to] else []).length := by rw [ek]; split <;> rfl
  obtain ⟨e3, e4⟩ := List.append_inj' e2 eg
  have esl : t.slots = u.slots := by
    have h6 := congrArg (List.map unr) e1
    rw [List.map_map, List.map_map] at h6
    have f1 : t.slots.map (unr ∘ rtx) = t.slots := (List.map_congr_left fun r hr => Mj (H9 ht r hr)).trans (List.map_id _)
    have f2 : u.slots.map (unr ∘ rtx) = u.slots := (List.map_congr_left fun r hr => Mj (H9 hu r hr)).trans (List.map_id _)
    rwa [f1, f2] at h6
  have eq : t.queue = u.queue := by
    have h6 := congrArg (List.map fun l : List UInt8 => undec l.tail) e3
    rw [List.map_map, List.map_map] at h6
    have f1 : t.queue.map ((fun l : List UInt8 => undec l.tail) ∘ fun n => 60 :: dec n) = t.queue := (List.map_congr_left fun n hn => (J8 (n := n) (by have := t7 n hn; omega)).1).trans (List.map_id _)
    have f2 : u.queue.map ((fun l : List UInt8 => undec l.tail) ∘ fun n => 60 :: dec n) = u.queue := (List.map_congr_left fun n hn => (J8 (n := n) (by have := u7 n hn; omega)).1).trans (List.map_id _)
    rwa [f1, f2] at h6
  have et : t.to = u.to := by
    by_cases h5 : t.kind = 5
    · rw [if_pos h5, if_pos (ek ▸ h5)] at e4
      simp only [List.cons.injEq, true_and, and_true] at e4
      have := congrArg undec e4
      rwa [(J8 (by omega)).1, (J8 (by omega)).1] at this
    · unfold targetOk at tt ut
      rw [if_neg h5] at tt
      rw [if_neg (ek ▸ h5)] at ut
      rw [of_decide_eq_true tt, of_decide_eq_true ut]
  exact Ts ek el ev en esl eq et
def lnx (ts : List Th) (i : Nat) : List UInt8 := dec ((i : Int) + 1) ++ (fl (ts.getD i Th.zero)).flatMap (32 :: ·)
theorem Gq (ts : List Th) : ∀ k, ttx ts k = ((List.range k).map (lnx ts)).flatMap (· ++ [10])
  | 0 => rfl
  | k + 1 => by
    rw [List.range_succ, List.map_append, List.flatMap_append, ← Gq ts k]
    show ((ttx ts k ++ dec ((k : Int) + 1)) ++ [32]) ++ thtx (ts.getD k Th.zero) = _
    have h := Ii (ts.getD k Th.zero)
    simp only [List.map_cons, List.map_nil, List.flatMap_cons, List.flatMap_nil, List.append_nil, lnx, List.append_assoc, List.cons_append, List.nil_append]
    rw [h]
theorem Ij {ts us : List Th} (ht : ∀ t ∈ ts, thingOk t = true) (hu : ∀ t ∈ us, thingOk t = true) (h1 : ts.length ≤ 8) (h2 : us.length ≤ 8) (h : ttx ts ts.length = ttx us us.length) : ts = us := by
  rw [Gq, Gq] at h
  have okd : ∀ {ts : List Th} {i : Nat}, (∀ t ∈ ts, thingOk t = true) → i < ts.length → thingOk (ts.getD i Th.zero) = true := fun {ts i} ho hi => by
    rw [List.getD_eq_getElem?_getD, List.getElem?_eq_getElem hi]
    exact ho _ (List.getElem_mem hi)
  have cl : ∀ {ts : List Th}, (∀ t ∈ ts, thingOk t = true) → ts.length ≤ 8 → ∀ x ∈ (List.range ts.length).map (lnx ts), (10 : UInt8) ∉ x := fun {ts} ho hl x hx => by
    obtain ⟨i, hi, rfl⟩ := List.mem_map.1 hx
    have hi := List.mem_range.1 hi
    unfold lnx
    rw [List.mem_append, not_or]
    refine ⟨Wm (by omega) (by decide) (by decide), fun hm => ?_⟩
    obtain ⟨y, hy, hm⟩ := List.mem_flatMap.1 hm
    rcases List.mem_cons.1 hm with h9 | h9
    · exact absurd h9 (by decide)
    · exact Hu (okd ho hi) (.inl rfl) y hy h9
  have h3 := Lr (cl ht h1) (cl hu h2) h
  have hl : ts.length = us.length := by have := congrArg List.length h3; simpa using this
  refine List.ext_getElem hl fun i hi hj => ?_
  have h4 := congrArg (fun L : List (List UInt8) => L[i]?) h3
  simp only [List.getElem?_map, List.getElem?_range hi, List.getElem?_range hj, Option.map_some, Option.some.injEq] at h4
  unfold lnx at h4
  have h5 := O6 (okd ht hi) (okd hu hj) (Sx (Hu (okd ht hi) (.inr rfl)) (Hu (okd hu hj) (.inr rfl)) (List.append_cancel_left h4))
  rwa [List.getD_eq_getElem?_getD, List.getElem?_eq_getElem hi, List.getD_eq_getElem?_getD, List.getElem?_eq_getElem hj] at h5
theorem N9 {ms : List MTh} (hT : ∀ i, i < ms.length → thingOk (mAt ms i).t = true) (h8 : ms.length ≤ 8) {k : Nat} (h : k ≤ ms.length) : (ttx (tabT ms) k).length ≤ 752 := by
  have h1 : (ttx (tabT ms) k).length ≤ 94 * k := by
    induction k with
    | zero => exact Nat.zero_le _
    | succ k ih =>
      have h1 := ih (by omega)
      have h2 := Yr ((k : Int) + 1)
      have h3 := R7 (hT k (by omega))
      rw [← Ej (by omega)]
      simp only [List.length_append, List.length_cons, List.length_nil]
      omega
  omega
theorem Og {ms : List MTh} (hT : ∀ i, i < ms.length → thingOk (mAt ms i).t = true) : ∀ t ∈ tabT ms, thingOk t = true := fun t ht => by
  obtain ⟨i, hi, rfl⟩ := List.getElem_of_mem ht
  have hi' : i < ms.length := by rwa [X7] at hi
  have := hT i hi'
  rwa [Hx, List.getD_eq_getElem?_getD, List.getElem?_eq_getElem hi] at this
theorem Zu {us ps : List MTh} (h1 : ∀ i, i < us.length → thingOk (mAt us i).t = true) (h2 : ∀ i, i < ps.length → thingOk (mAt ps i).t = true) (h3 : us.length ≤ 8) (h4 : ps.length ≤ 8) :
    decide (ttx (tabT us) us.length = ttx (tabT ps) ps.length) = decide (tabT us = tabT ps) := by
  rw [decide_eq_decide]
  constructor
  · intro h
    rw [← X7 us, ← X7 ps] at h
    exact Ij (Og h1) (Og h2) (by rw [X7]; exact h3) (by rw [X7]; exact h4) h
  · intro h
    have hl : us.length = ps.length := by rw [← X7 us, h, X7]
    rw [h, hl]
theorem Pc {ms ns us ps : List MTh} {l : Lab} (he : tabT us = viewTab (tabT ms) l) (he2 : tabT ps = viewTab (tabT ns) l) (h1 : tableOk (tabT ms) = true) (h2 : tableOk (tabT ns) = true) (h3 : labelOk l = true) :
    decide (ttx (tabT us) us.length = ttx (tabT ps) ps.length) = viewSame (tabT ms) (tabT ns) l := by
  have e1 := Jm he h1 h3
  have e2 := Jm he2 h2 h3
  have t1 := Hf h1
  have t2 := Hf h2
  rw [Zu (fun i hi => Wf he h1 h3 (by omega)) (fun i hi => Wf he2 h2 h3 (by omega)) (by omega) (by omega)]
  unfold viewSame
  rw [h1, h2, h3, he, he2]
  simp only [Bool.true_and]
  cases hd : decide (viewTab (tabT ms) l = viewTab (tabT ns) l) with
  | false => rw [Bool.and_false]
  | true =>
    have hl := congrArg List.length (of_decide_eq_true hd)
    rw [← he, ← he2, X7, X7] at hl
    rw [X7, X7, decide_eq_true (by omega), Bool.and_true]
theorem K9 {ts us : List Th} {l : Lab} (h : tableOk ts = false) : viewSame ts us l = false := by unfold viewSame; rw [h]; rfl
theorem Gz {ts us : List Th} {l : Lab} (h : tableOk us = false) : viewSame ts us l = false := by unfold viewSame; rw [h]; simp
theorem R9 {ts us : List Th} {l : Lab} (h : labelOk l = false) : viewSame ts us l = false := by unfold viewSame; rw [h]; simp
end Go.Dw.J
end
section
namespace Go.Dw.J
open Go.RowKit Go.Dw Go.Proofs
set_option linter.unusedSectionVars false
set_option maxRecDepth 100000
set_option maxHeartbeats 4000000
set_option linter.unusedSimpArgs false
set_option linter.unusedVariables false
theorem O4 : elemSz Try.prog 138 = some 1 := by kernel_rfl
theorem Kx : goFn Try.prog 100 = true := by kernel_rfl
theorem O8 : goFn Try.prog 101 = true := by kernel_rfl
theorem Zi : goFn Try.prog 119 = true := by kernel_rfl
theorem Zj : goFn Try.prog 120 = true := by kernel_rfl
theorem S0 : goFn Try.prog 123 = true := by kernel_rfl
theorem Xbl : oneTy Try.prog 9 = true := by kernel_rfl
theorem Sr [Comp] (n : Int) (hn : 0 ≤ n ∧ n ≤ 9) (w : World) : CallsR Try.prog 100 #[.int .i64 n] w (fun v w' => v = .string ⟨(dec2 n).toArray⟩ ∧ w.grownBy w' none) := by
 refine Xl (n := 28) Try.func100 rfl Try.ntmps100 rfl ?_
 have hb0 := World.grownBy.refl w none
 refine Xa ?_
 refine wpo_assign (v := .string ⟨([] : List UInt8).toArray⟩) rfl rfl ?_
 refine wpo_nil ?_
 refine Xh ?_
 refine Xa ?_
 refine wpo_move (v := .int .i64 n) rfl rfl ?_
 refine wpo_lss (q := decide (n < (-9223372036854775807))) rfl rfl rfl rfl ?_
 refine wpo_nil ?_
 refine X8 rfl (decide_eq_false (by omega)) ?_
 refine Xm ?_
 refine Xo ?_
 refine Xh ?_
 refine Xa ?_
 refine wpo_move (v := .int .i64 n) rfl rfl ?_
 refine wpo_lss (q := decide (n < 0)) rfl rfl rfl rfl ?_
 refine wpo_nil ?_
 refine X8 rfl (decide_eq_false (by omega)) ?_
 refine Xm ?_
 refine Xo ?_
 refine Xh ?_
 refine Xa ?_
 refine wpo_move (v := .int .i64 n) rfl rfl ?_
 refine wpo_lss (q := decide (n < 10)) rfl rfl rfl rfl ?_
 refine wpo_nil ?_
 refine Yb rfl (decide_eq_true (by omega)) ?_
 refine Xa ?_
 refine wpo_move (v := .int .i64 n) rfl rfl ?_
 refine wpo_add (c := 48 + n) rfl rfl (by omega) (by omega) (by omega) rfl ?_
 refine wpo_conv (P := Try.prog) (k' := .u8) rfl (by kernel_rfl) (by kernel_rfl) (T1 (by omega) (by omega)) rfl ?_
 refine wpo_buildSlice (ps := [(0, .int .u8 (48 + n))]) (e := 5) (cs := #[.int .u8 (48 + n)]) (Xw rfl X9) (fun _ => by kernel_rfl) rfl ?_
 intro B101 w102 hN103
 have hlB101 := Xv hN103 hb0
 have hb104 := low0 hb0 hN103.grw
 refine wpo_bstr (ns := [48 + n]) (e := 5) rfl (by kernel_rfl) (by kernel_rfl) (by kernel_rfl) (load_blk hN103.blk rfl rfl) rfl ?_
 refine wpo_assign (v := .string ⟨(ub [48 + n]).toArray⟩) rfl rfl ?_
 refine wpo_nil ?_
 refine Xk ?_
 refine Xy ?_
 refine ⟨.string ⟨(ub [48 + n]).toArray⟩, res1 rfl rfl, ?_, hb104⟩
 exact congrArg (fun z : List UInt8 => Value.string ⟨z.toArray⟩) ((I1 hn.2).symm)
theorem Ow [Comp] (n : Int) (hn : 10 ≤ n ∧ n ≤ 99) (w : World) : CallsR Try.prog 100 #[.int .i64 n] w (fun v w' => v = .string ⟨(dec2 n).toArray⟩ ∧ w.grownBy w' none) := by
 refine Xl (n := 28) Try.func100 rfl Try.ntmps100 rfl ?_
 have hb0 := World.grownBy.refl w none
 refine Xa ?_
 refine wpo_assign (v := .string ⟨([] : List UInt8).toArray⟩) rfl rfl ?_
 refine wpo_nil ?_
 refine Xh ?_
 refine Xa ?_
 refine wpo_move (v := .int .i64 n) rfl rfl ?_
 refine wpo_lss (q := decide (n < (-9223372036854775807))) rfl rfl rfl rfl ?_
 refine wpo_nil ?_
 refine X8 rfl (decide_eq_false (by omega)) ?_
 refine Xm ?_
 refine Xo ?_
 refine Xh ?_
 refine Xa ?_
 refine wpo_move (v := .int .i64 n) rfl rfl ?_
 refine wpo_lss (q := decide (n < 0)) rfl rfl rfl rfl ?_
 refine wpo_nil ?_
 refine X8 rfl (decide_eq_false (by omega)) ?_
 refine Xm ?_
 refine Xo ?_
 refine Xh ?_
 refine Xa ?_
 refine wpo_move (v := .int .i64 n) rfl rfl ?_
 refine wpo_lss (q := decide (n < 10)) rfl rfl rfl rfl ?_
 refine wpo_nil ?_
 refine X8 rfl (decide_eq_false (by omega)) ?_
 refine Xm ?_
 refine Xo ?_
 refine Xh ?_
 refine J7 (m := 9) [[], [0], [0, 1], [], [3], [3, 4], [3, 4, 5], [3, 4, 5, 6], [3, 4, 5, 6, 7], [0, 1, 2, 3, 4, 5, 6, 7, 8], [0, 1, 2, 3, 4, 5, 6, 7, 8, 9]] (fun S F w' => ∃ (B125 : Nat), w.grownBy w' none ∧ F 0 = .int .i64 n ∧ F 2 = .string ⟨([] : List UInt8).toArray⟩ ∧ (S 7 = true → F 25 = .slice (some ⟨B125, 0, none⟩) 1 1 ∧ w.heap.size ≤ B125 ∧ Blk w' B125 5 #[.int .u8 (48 + (n % 10))] ∧ w.heap.size ≤ B125) ∧ Vals S F [(0, 18, .int .i64 n), (1, 19, .int .i64 (n / 10)), (2, 20, .string ⟨(dec2 (n / 10)).toArray⟩), (3, 21, .int .i64 n), (4, 22, .int .i64 (n % 10)), (5, 23, .int .i64 (48 + (n % 10))), (6, 24, .int .u8 (48 + (n % 10))), (8, 26, .string ⟨(ub [48 + (n % 10)]).toArray⟩)]) Qd (by kernel_rfl) ⟨0, X4 _, rfl, rfl, Qw, Ug _⟩ ?_ ?_
 ·
  refine Xn (fun S F w129 hS hbef hcl hI => ?_) ?_
  ·
   obtain ⟨B125, hi130, e131, e132, c_7, hvs⟩ := hI
   have hb133 := low0 hb0 hi130
   refine wpo_move (v := .int .i64 n) e131 rfl ?_
   exact wpo_nil ⟨B125, hi130, e131, e132, c_7, Vals.up 0 hvs rfl rfl rfl⟩
  refine Xn (fun S F w134 hS hbef hcl hI => ?_) ?_
  ·
   obtain ⟨B125, hi135, e136, e137, c_7, hvs⟩ := hI
   have hb138 := low0 hb0 hi135
   have ev139 := Vals.at 0 hvs rfl (Xf 0 hbef rfl)
   refine wpo_quo (c := n / 10) ev139 rfl (by omega) (by omega) (by omega) rfl rfl ?_
   exact wpo_nil ⟨B125, hi135, e136, e137, c_7, Vals.up 1 hvs rfl rfl rfl⟩
  refine Xn (fun S F w140 hS hbef hcl hI => ?_) ?_
  ·
   obtain ⟨B125, hi141, e142, e143, c_7, hvs⟩ := hI
   have hb144 := low0 hb0 hi141
   have ev145 := Vals.at 0 hvs rfl (Xf 0 hbef rfl)
   have ev146 := Vals.at 1 hvs rfl (Xf 1 hbef rfl)
   refine Xi (vs := [.int .i64 (n / 10)]) Kx (Xc ev146 Xg) rfl (Sr (n / 10) (by omega) _) ?_
   rintro _ w147 ⟨rfl, hg148⟩
   have hb149 := low0 hb144 hg148
   exact wpo_nil ⟨B125, (low0 hi141 hg148), e142, e143, fun h => let ⟨y150, y151, y152, y153⟩ := c_7 h; ⟨y150, y151, (y152).grown0 hg148, y153⟩, Vals.up 2 hvs rfl rfl rfl⟩
  refine Xn (fun S F w154 hS hbef hcl hI => ?_) ?_
  ·
   obtain ⟨B125, hi155, e156, e157, c_7, hvs⟩ := hI
   have hb158 := low0 hb0 hi155
   refine wpo_move (v := .int .i64 n) e156 rfl ?_
   exact wpo_nil ⟨B125, hi155, e156, e157, fun h => Xq 7 hS hcl rfl h, Vals.up 3 hvs rfl rfl rfl⟩
  refine Xn (fun S F w159 hS hbef hcl hI => ?_) ?_
  ·
   obtain ⟨B125, hi160, e161, e162, c_7, hvs⟩ := hI
   have hb163 := low0 hb0 hi160
   have ev164 := Vals.at 3 hvs rfl (Xf 3 hbef rfl)
   refine wpo_rem (c := n % 10) ev164 rfl (by omega) (by omega) (by omega) rfl rfl ?_
   exact wpo_nil ⟨B125, hi160, e161, e162, fun h => Xq 7 hS hcl rfl h, Vals.up 4 hvs rfl rfl rfl⟩
  refine Xn (fun S F w165 hS hbef hcl hI => ?_) ?_
  ·
   obtain ⟨B125, hi166, e167, e168, c_7, hvs⟩ := hI
   have hb169 := low0 hb0 hi166
   have ev170 := Vals.at 3 hvs rfl (Xf 3 hbef rfl)
   have ev171 := Vals.at 4 hvs rfl (Xf 4 hbef rfl)
   refine wpo_add (c := 48 + (n % 10)) rfl ev171 (by omega) (by omega) (by omega) rfl ?_
   exact wpo_nil ⟨B125, hi166, e167, e168, fun h => Xq 7 hS hcl rfl h, Vals.up 5 hvs rfl rfl rfl⟩
  refine Xn (fun S F w172 hS hbef hcl hI => ?_) ?_
  ·
   obtain ⟨B125, hi173, e174, e175, c_7, hvs⟩ := hI
   have hb176 := low0 hb0 hi173
   have ev177 := Vals.at 3 hvs rfl (Xf 3 hbef rfl)
   have ev178 := Vals.at 4 hvs rfl (Xf 4 hbef rfl)
   have ev179 := Vals.at 5 hvs rfl (Xf 5 hbef rfl)
   refine wpo_conv (P := Try.prog) (k' := .u8) ev179 (by kernel_rfl) (by kernel_rfl) (T1 (by omega) (by omega)) rfl ?_
   exact wpo_nil ⟨B125, hi173, e174, e175, fun h => Xq 7 hS hcl rfl h, Vals.up 6 hvs rfl rfl rfl⟩
  refine Xn (fun S F w180 hS hbef hcl hI => ?_) ?_
  ·
   obtain ⟨B125, hi181, e182, e183, c_7, hvs⟩ := hI
   have hb184 := low0 hb0 hi181
   have ev185 := Vals.at 3 hvs rfl (Xf 3 hbef rfl)
   have ev186 := Vals.at 4 hvs rfl (Xf 4 hbef rfl)
   have ev187 := Vals.at 5 hvs rfl (Xf 5 hbef rfl)
   have ev188 := Vals.at 6 hvs rfl (Xf 6 hbef rfl)
   refine wpo_buildSlice (ps := [(0, .int .u8 (48 + (n % 10)))]) (e := 5) (cs := #[.int .u8 (48 + (n % 10))]) (Xw ev188 X9) (fun _ => by kernel_rfl) rfl ?_
   intro B189 w190 hN191
   have hlB189 := Xv hN191 hb184
   have hb192 := low0 hb184 hN191.grw
   exact wpo_nil ⟨B189, (low0 hi181 hN191.grw), e182, e183, fun _ => ⟨rfl, hlB189, hN191.blk, (Nat.le_trans hi181.size hN191.ge)⟩, Vals.keep hvs rfl⟩
  refine Xn (fun S F w193 hS hbef hcl hI => ?_) ?_
  ·
   obtain ⟨B125, hi194, e195, e196, c_7, hvs⟩ := hI
   have hb197 := low0 hb0 hi194
   have ev198 := Vals.at 3 hvs rfl (Xf 3 hbef rfl)
   have ev199 := Vals.at 4 hvs rfl (Xf 4 hbef rfl)
   have ev200 := Vals.at 5 hvs rfl (Xf 5 hbef rfl)
   have ev201 := Vals.at 6 hvs rfl (Xf 6 hbef rfl)
   obtain ⟨e202, hlB125, kb_B125, hk_B125⟩ := c_7 (Xf 7 hbef rfl)
   refine wpo_bstr (ns := [48 + (n % 10)]) (e := 5) e202 (by kernel_rfl) (by kernel_rfl) (by kernel_rfl) (load_blk kb_B125 rfl rfl) rfl ?_
   exact wpo_nil ⟨B125, hi194, e195, e196, c_7, Vals.up 7 hvs rfl rfl rfl⟩
  exact Kh
 ·
  intro S F w203 hall hI
  obtain ⟨B125, hi204, e205, e206, c_7, hvs⟩ := hI
  have hb207 := low0 hb0 hi204
  have ev208 := Vals.at 0 hvs rfl (hall 0 (by decide))
  have ev209 := Vals.at 1 hvs rfl (hall 1 (by decide))
  have ev210 := Vals.at 2 hvs rfl (hall 2 (by decide))
  have ev211 := Vals.at 3 hvs rfl (hall 3 (by decide))
  have ev212 := Vals.at 4 hvs rfl (hall 4 (by decide))
  have ev213 := Vals.at 5 hvs rfl (hall 5 (by decide))
  have ev214 := Vals.at 6 hvs rfl (hall 6 (by decide))
  obtain ⟨e215, hlB125, kb_B125, hk_B125⟩ := c_7 (hall 7 (by decide))
  have ev216 := Vals.at 7 hvs rfl (hall 8 (by decide))
  refine wpo_cat (a := dec2 (n / 10)) (b := ub [48 + (n % 10)]) ev210 ev216 (Nat.le_trans (Wk (n / 10)) (by decide)) (Nat.le_trans (show (ub [48 + (n % 10)]).length ≤ 1 from Nat.le_refl _) (by decide)) rfl ?_
  refine wpo_assign (v := .string ⟨((dec2 (n / 10)) ++ (ub [48 + (n % 10)])).toArray⟩) rfl rfl ?_
  refine wpo_nil ?_
  refine Xo ?_
  refine Xk ?_
  refine ⟨.string ⟨((dec2 (n / 10)) ++ (ub [48 + (n % 10)])).toArray⟩, res1 rfl rfl, ?_, hb207⟩
  exact congrArg (fun z : List UInt8 => Value.string ⟨z.toArray⟩) ((Xai hn).symm)
theorem Ox [Comp] (n : Int) (hn : -9 ≤ n ∧ n < 0) (w : World) : CallsR Try.prog 100 #[.int .i64 n] w (fun v w' => v = .string ⟨(dec n).toArray⟩ ∧ w.grownBy w' none) := by
 refine Xl (n := 28) Try.func100 rfl Try.ntmps100 rfl ?_
 have hb0 := World.grownBy.refl w none
 refine Xa ?_
 refine wpo_assign (v := .string ⟨([] : List UInt8).toArray⟩) rfl rfl ?_
 refine wpo_nil ?_
 refine Xh ?_
 refine Xa ?_
 refine wpo_move (v := .int .i64 n) rfl rfl ?_
 refine wpo_lss (q := decide (n < (-9223372036854775807))) rfl rfl rfl rfl ?_
 refine wpo_nil ?_
 refine X8 rfl (decide_eq_false (by omega)) ?_
 refine Xm ?_
 refine Xo ?_
 refine Xh ?_
 refine Xa ?_
 refine wpo_move (v := .int .i64 n) rfl rfl ?_
 refine wpo_lss (q := decide (n < 0)) rfl rfl rfl rfl ?_
 refine wpo_nil ?_
 refine Yb rfl (decide_eq_true (by omega)) ?_
 refine Xa ?_
 refine wpo_move (v := .int .i64 n) rfl rfl ?_
 refine wpo_neg (c := -n) rfl rfl (by omega) (by omega) rfl ?_
 refine Xi (vs := [.int .i64 (-n)]) Kx (Xc rfl Xg) rfl (Sr (-n) (by omega) _) ?_
 rintro _ w101 ⟨rfl, hg102⟩
 have hb103 := low0 hb0 hg102
 refine wpo_cat (a := ([45] : List UInt8)) (b := dec2 (-n)) rfl rfl (Nat.le_trans (Nat.le_refl _) (by decide)) (Nat.le_trans (Wk (-n)) (by decide)) rfl ?_
 refine wpo_assign (v := .string ⟨(([45] : List UInt8) ++ (dec2 (-n))).toArray⟩) rfl rfl ?_
 refine wpo_nil ?_
 refine Xk ?_
 refine Xy ?_
 refine ⟨.string ⟨(([45] : List UInt8) ++ (dec2 (-n))).toArray⟩, res1 rfl rfl, ?_, hb103⟩
 exact congrArg (fun z : List UInt8 => Value.string ⟨z.toArray⟩) ((Xaj hn.2).symm)
theorem Wl [Comp] (n : Int) (hn : -9 ≤ n ∧ n ≤ 99) (w : World) : CallsR Try.prog 100 #[.int .i64 n] w (fun v w' => v = .string ⟨(dec n).toArray⟩ ∧ w.grownBy w' none) := by
  by_cases h1 : n < 0
  · exact Ox n ⟨hn.1, h1⟩ w
  · rw [I2 (by omega)]
    by_cases h2 : n ≤ 9
    · exact Sr n ⟨by omega, h2⟩ w
    · exact Ow n ⟨by omega, hn.2⟩ w
theorem Sy [Comp] (b : Bool) (l : List UInt8) (w : World) : CallsR Try.prog 123 #[.bool b, .string ⟨(l).toArray⟩] w (fun v w' => v = .string ⟨(flg b l).toArray⟩ ∧ w.grownBy w' none) := by
 refine Xl (n := 7) Try.func123 rfl Try.ntmps123 rfl ?_
 have hb0 := World.grownBy.refl w none
 refine Xa ?_
 refine wpo_assign (v := .string ⟨([] : List UInt8).toArray⟩) rfl rfl ?_
 refine wpo_nil ?_
 refine Xh ?_
 refine Xa ?_
 refine wpo_move (v := .bool b) rfl rfl ?_
 refine wpo_nil ?_
 refine Xp rfl (fun h101 => ?_) (fun h101 => ?_)
 ·
  refine Xa ?_
  refine wpo_move (v := .string ⟨(l).toArray⟩) rfl rfl ?_
  refine wpo_assign (v := .string ⟨(l).toArray⟩) rfl rfl ?_
  refine wpo_nil ?_
  refine Xk ?_
  refine Xy ?_
  refine ⟨.string ⟨(l).toArray⟩, res1 rfl rfl, ?_, hb0⟩
  exact congrArg (fun z : List UInt8 => Value.string ⟨z.toArray⟩) ((if_pos h101).symm)
 ·
  refine Xm ?_
  refine Xo ?_
  refine Xa ?_
  refine wpo_assign (v := .string ⟨([45] : List UInt8).toArray⟩) rfl rfl ?_
  refine wpo_nil ?_
  refine Xk ?_
  refine ⟨.string ⟨([45] : List UInt8).toArray⟩, res1 rfl rfl, ?_, hb0⟩
  exact congrArg (fun z : List UInt8 => Value.string ⟨z.toArray⟩) ((if_neg (by rw [h101]; exact Bool.false_ne_true)).symm)
theorem Fp [Comp] (l : Lab) (w : World) : CallsR Try.prog 119 #[.agg #[.int .i64 l.s, .int .i64 l.v]] w (fun v w' => v = .string ⟨(labtx l).toArray⟩ ∧ w.grownBy w' none) := by
 refine Xl (n := 14) Try.func119 rfl Try.ntmps119 rfl ?_
 have hb0 := World.grownBy.refl w none
 refine Xa ?_
 refine wpo_box (v := .agg #[.int .i64 l.s, .int .i64 l.v]) (cs := #[.int .i64 l.s, .int .i64 l.v]) rfl rfl rfl ?_
 intro B101 w102 hN103
 have hlB101 := Xv hN103 hb0
 have hb104 := low0 hb0 hN103.grw
 refine wpo_assign (v := .string ⟨([] : List UInt8).toArray⟩) rfl rfl ?_
 refine wpo_nil ?_
 refine Xh ?_
 refine Xa ?_
 refine wpo_loadn (vs := [.int .i64 l.s, .int .i64 l.v]) Qg rfl rfl (hN103.blk.rangeL 0 2 rfl) rfl ?_
 refine Xi (vs := [.agg #[.int .i64 l.s, .int .i64 l.v]]) T5 (Xc rfl Xg) rfl (Vr l _) ?_
 rintro _ w105 ⟨rfl, hg106⟩
 have hb107 := low0 hb104 hg106
 refine wpo_not (b' := !labelOk l) rfl rfl rfl ?_
 refine wpo_nil ?_
 refine Xp rfl (fun h108 => ?_) (fun h108 => ?_)
 ·
  have h109 := Qi h108
  refine Xa ?_
  refine wpo_assign (v := .string ⟨([] : List UInt8).toArray⟩) rfl rfl ?_
  refine wpo_nil ?_
  refine Xk ?_
  refine Xy ?_
  refine ⟨.string ⟨([] : List UInt8).toArray⟩, res1 rfl rfl, ?_, hb107⟩
  exact congrArg (fun z : List UInt8 => Value.string ⟨z.toArray⟩) ((if_neg (by rw [h109]; exact Bool.false_ne_true)).symm)
 ·
  have h110 := Y5 h108
  have hlk111 := (Q2 l).1 h110
  refine Xm ?_
  refine Xo ?_
  refine Xh ?_
  refine Yx (m := 7) (vals := [(6, .pointer (some ⟨B101, 0, none⟩)), (7, .int .i64 l.s), (8, .string ⟨(dec l.s).toArray⟩), (9, .string ⟨((dec l.s) ++ ([47] : List UInt8)).toArray⟩), (10, .pointer (some ⟨B101, 1, none⟩)), (11, .int .i64 l.v), (12, .string ⟨(dec l.v).toArray⟩)]) (fun w' => w105.grownBy w' none) Qd (by kernel_rfl) (X4 _) ?_ ?_
  ·
   refine Xd rfl (fun w144 hi145 => ?_) ?_
   ·
    have hb146 := low0 hb107 hi145
    refine wpo_fieldAddr (o' := 0) Ke rfl rfl rfl ?_
    exact wpo_nil ⟨rfl, hi145⟩
   refine Xd rfl (fun w147 hi148 => ?_) ?_
   ·
    have hb149 := low0 hb107 hi148
    have k150 := ((hN103.blk.grown0 hg106).grown0 hi148)
    refine wpo_load1 (v := .int .i64 l.s) X1 rfl (k150.cell rfl) rfl ?_
    exact wpo_nil ⟨rfl, hi148⟩
   refine Xd rfl (fun w151 hi152 => ?_) ?_
   ·
    have hb153 := low0 hb107 hi152
    refine Xi (vs := [.int .i64 l.s]) Kx (Xc rfl Xg) rfl (Wl l.s (by omega) _) ?_
    rintro _ w154 ⟨rfl, hg155⟩
    have hb156 := low0 hb153 hg155
    exact wpo_nil ⟨rfl, (Xj hi152 hg155)⟩
   refine Xd rfl (fun w157 hi158 => ?_) ?_
   ·
    have hb159 := low0 hb107 hi158
    refine wpo_cat (a := dec l.s) (b := ([47] : List UInt8)) rfl rfl (Nat.le_trans (Yr l.s) (by decide)) (Nat.le_trans (Nat.le_refl _) (by decide)) rfl ?_
    exact wpo_nil ⟨rfl, hi158⟩
   refine Xd rfl (fun w160 hi161 => ?_) ?_
   ·
    have hb162 := low0 hb107 hi161
    refine wpo_fieldAddr (o' := 1) Kg rfl rfl rfl ?_
    exact wpo_nil ⟨rfl, hi161⟩
   refine Xd rfl (fun w163 hi164 => ?_) ?_
   ·
    have hb165 := low0 hb107 hi164
    have k166 := ((hN103.blk.grown0 hg106).grown0 hi164)
    refine wpo_load1 (v := .int .i64 l.v) X1 rfl (k166.cell rfl) rfl ?_
    exact wpo_nil ⟨rfl, hi164⟩
   refine Xd rfl (fun w167 hi168 => ?_) ?_
   ·
    have hb169 := low0 hb107 hi168
    refine Xi (vs := [.int .i64 l.v]) Kx (Xc rfl Xg) rfl (Wl l.v (by omega) _) ?_
    rintro _ w170 ⟨rfl, hg171⟩
    have hb172 := low0 hb169 hg171
    exact wpo_nil ⟨rfl, (Xj hi168 hg171)⟩
   exact Qc
  ·
   intro w173 hi174
   have hb175 := low0 hb107 hi174
   refine wpo_cat (a := ((dec l.s) ++ ([47] : List UInt8))) (b := dec l.v) rfl rfl (Nat.le_trans (Ym (Yr l.s) (Nat.le_refl _)) (by decide)) (Nat.le_trans (Yr l.v) (by decide)) rfl ?_
   refine wpo_assign (v := .string ⟨(((dec l.s) ++ ([47] : List UInt8)) ++ (dec l.v)).toArray⟩) rfl rfl ?_
   refine wpo_nil ?_
   refine Xo ?_
   refine Xk ?_
   refine ⟨.string ⟨(((dec l.s) ++ ([47] : List UInt8)) ++ (dec l.v)).toArray⟩, res1 rfl rfl, ?_, hb175⟩
   exact congrArg (fun z : List UInt8 => Value.string ⟨z.toArray⟩) ((if_pos h110).symm)
theorem Xba [Comp] (r : Rt) (w : World) : CallsR Try.prog 120 #[.agg #[.int .i64 r.th, .int .i64 r.ve, .bool r.rd, .bool r.wr, .bool r.wk]] w (fun v w' => v = .string ⟨(rtx r).toArray⟩ ∧ w.grownBy w' none) := by
 refine Xl (n := 29) Try.func120 rfl Try.ntmps120 rfl ?_
 have hb0 := World.grownBy.refl w none
 refine Xa ?_
 refine wpo_box (v := .agg #[.int .i64 r.th, .int .i64 r.ve, .bool r.rd, .bool r.wr, .bool r.wk]) (cs := #[.int .i64 r.th, .int .i64 r.ve, .bool r.rd, .bool r.wr, .bool r.wk]) rfl rfl rfl ?_
 intro B101 w102 hN103
 have hlB101 := Xv hN103 hb0
 have hb104 := low0 hb0 hN103.grw
 refine wpo_assign (v := .string ⟨([] : List UInt8).toArray⟩) rfl rfl ?_
 refine wpo_nil ?_
 refine Xh ?_
 refine Xa ?_
 refine wpo_loadn (vs := [.int .i64 r.th, .int .i64 r.ve, .bool r.rd, .bool r.wr, .bool r.wk]) Js rfl rfl (hN103.blk.rangeL 0 5 rfl) rfl ?_
 refine Xi (vs := [.agg #[.int .i64 r.th, .int .i64 r.ve, .bool r.rd, .bool r.wr, .bool r.wk]]) Od (Xc rfl Xg) rfl (H8 r _) ?_
 rintro _ w105 ⟨rfl, hg106⟩
 have hb107 := low0 hb104 hg106
 refine wpo_not (b' := !rightOk r) rfl rfl rfl ?_
 refine wpo_nil ?_
 refine Xp rfl (fun h108 => ?_) (fun h108 => ?_)
 ·
  have h109 := Qi h108
  refine Xa ?_
  refine wpo_assign (v := .string ⟨([] : List UInt8).toArray⟩) rfl rfl ?_
  refine wpo_nil ?_
  refine Xk ?_
  refine Xy ?_
  refine ⟨.string ⟨([] : List UInt8).toArray⟩, res1 rfl rfl, ?_, hb107⟩
  exact congrArg (fun z : List UInt8 => Value.string ⟨z.toArray⟩) ((if_neg (by rw [h109]; exact Bool.false_ne_true)).symm)
 ·
  have h110 := Y5 h108
  have hrk111 := Uy h110
  refine Xm ?_
  refine Xo ?_
  refine Xh ?_
  refine Xa ?_
  refine wpo_fieldAddr (o' := 0) Qu rfl rfl rfl ?_
  have k112 := (hN103.blk.grown0 hg106)
  refine wpo_load1 (v := .int .i64 r.th) X1 rfl (k112.cell rfl) rfl ?_
  refine wpo_eql (q := decide (r.th = 0)) rfl rfl rfl rfl ?_
  refine wpo_nil ?_
  refine Xp rfl (fun h113 => ?_) (fun h113 => ?_)
  ·
   have h114 := of_decide_eq_true h113
   refine Xa ?_
   refine wpo_assign (v := .string ⟨([45] : List UInt8).toArray⟩) rfl rfl ?_
   refine wpo_nil ?_
   refine Xk ?_
   refine Xy ?_
   refine ⟨.string ⟨([45] : List UInt8).toArray⟩, res1 rfl rfl, ?_, hb107⟩
   exact congrArg (fun z : List UInt8 => Value.string ⟨z.toArray⟩) (((if_pos h110).trans (if_pos (of_decide_eq_true h113))).symm)
  ·
   have h115 := of_decide_eq_false h113
   refine Xm ?_
   refine Xo ?_
   refine Xh ?_
   refine Yx (m := 19) (vals := [(9, .pointer (some ⟨B101, 0, none⟩)), (10, .int .i64 r.th), (11, .string ⟨(dec r.th).toArray⟩), (12, .string ⟨((dec r.th) ++ ([46] : List UInt8)).toArray⟩), (13, .pointer (some ⟨B101, 1, none⟩)), (14, .int .i64 r.ve), (15, .string ⟨(dec r.ve).toArray⟩), (16, .string ⟨(((dec r.th) ++ ([46] : List UInt8)) ++ (dec r.ve)).toArray⟩), (17, .pointer (some ⟨B101, 2, none⟩)), (18, .bool r.rd), (19, .string ⟨(flg r.rd [114]).toArray⟩), (20, .string ⟨((((dec r.th) ++ ([46] : List UInt8)) ++ (dec r.ve)) ++ (flg r.rd [114])).toArray⟩), (21, .pointer (some ⟨B101, 3, none⟩)), (22, .bool r.wr), (23, .string ⟨(flg r.wr [119]).toArray⟩), (24, .string ⟨(((((dec r.th) ++ ([46] : List UInt8)) ++ (dec r.ve)) ++ (flg r.rd [114])) ++ (flg r.wr [119])).toArray⟩), (25, .pointer (some ⟨B101, 4, none⟩)), (26, .bool r.wk), (27, .string ⟨(flg r.wk [107]).toArray⟩)]) (fun w' => w105.grownBy w' none) Qd (by kernel_rfl) (X4 _) ?_ ?_
   ·
    refine Xd rfl (fun w192 hi193 => ?_) ?_
    ·
     have hb194 := low0 hb107 hi193
     refine wpo_fieldAddr (o' := 0) Qu rfl rfl rfl ?_
     exact wpo_nil ⟨rfl, hi193⟩
    refine Xd rfl (fun w195 hi196 => ?_) ?_
    ·
     have hb197 := low0 hb107 hi196
     have k198 := (k112.grown0 hi196)
     refine wpo_load1 (v := .int .i64 r.th) X1 rfl (k198.cell rfl) rfl ?_
     exact wpo_nil ⟨rfl, hi196⟩
    refine Xd rfl (fun w199 hi200 => ?_) ?_
    ·
     have hb201 := low0 hb107 hi200
     refine Xi (vs := [.int .i64 r.th]) Kx (Xc rfl Xg) rfl (Wl r.th (by omega) _) ?_
     rintro _ w202 ⟨rfl, hg203⟩
     have hb204 := low0 hb201 hg203
     exact wpo_nil ⟨rfl, (Xj hi200 hg203)⟩
    refine Xd rfl (fun w205 hi206 => ?_) ?_
    ·
     have hb207 := low0 hb107 hi206
     refine wpo_cat (a := dec r.th) (b := ([46] : List UInt8)) rfl rfl (Nat.le_trans (Yr r.th) (by decide)) (Nat.le_trans (Nat.le_refl _) (by decide)) rfl ?_
     exact wpo_nil ⟨rfl, hi206⟩
    refine Xd rfl (fun w208 hi209 => ?_) ?_
    ·
     have hb210 := low0 hb107 hi209
     refine wpo_fieldAddr (o' := 1) Kl rfl rfl rfl ?_
     exact wpo_nil ⟨rfl, hi209⟩
    refine Xd rfl (fun w211 hi212 => ?_) ?_
    ·
     have hb213 := low0 hb107 hi212
     have k214 := (k112.grown0 hi212)
     refine wpo_load1 (v := .int .i64 r.ve) X1 rfl (k214.cell rfl) rfl ?_
     exact wpo_nil ⟨rfl, hi212⟩
    refine Xd rfl (fun w215 hi216 => ?_) ?_
    ·
     have hb217 := low0 hb107 hi216
     refine Xi (vs := [.int .i64 r.ve]) Kx (Xc rfl Xg) rfl (Wl r.ve (by omega) _) ?_
     rintro _ w218 ⟨rfl, hg219⟩
     have hb220 := low0 hb217 hg219
     exact wpo_nil ⟨rfl, (Xj hi216 hg219)⟩
    refine Xd rfl (fun w221 hi222 => ?_) ?_
    ·
     have hb223 := low0 hb107 hi222
     refine wpo_cat (a := ((dec r.th) ++ ([46] : List UInt8))) (b := dec r.ve) rfl rfl (Nat.le_trans (Ym (Yr r.th) (Nat.le_refl _)) (by decide)) (Nat.le_trans (Yr r.ve) (by decide)) rfl ?_
     exact wpo_nil ⟨rfl, hi222⟩
    refine Xd rfl (fun w224 hi225 => ?_) ?_
    ·
     have hb226 := low0 hb107 hi225
     refine wpo_fieldAddr (o' := 2) G5 rfl rfl rfl ?_
     exact wpo_nil ⟨rfl, hi225⟩
    refine Xd rfl (fun w227 hi228 => ?_) ?_
    ·
     have hb229 := low0 hb107 hi228
     have k230 := (k112.grown0 hi228)
     refine wpo_load1 (v := .bool r.rd) J9 rfl (k230.cell rfl) rfl ?_
     exact wpo_nil ⟨rfl, hi228⟩
    refine Xd rfl (fun w231 hi232 => ?_) ?_
    ·
     have hb233 := low0 hb107 hi232
     refine Xi (vs := [.bool r.rd, .string ⟨([114] : List UInt8).toArray⟩]) S0 (Xc rfl (Xc rfl Xg)) rfl (Sy r.rd [114] _) ?_
     rintro _ w234 ⟨rfl, hg235⟩
     have hb236 := low0 hb233 hg235
     exact wpo_nil ⟨rfl, (Xj hi232 hg235)⟩
    refine Xd rfl (fun w237 hi238 => ?_) ?_
    ·
     have hb239 := low0 hb107 hi238
     refine wpo_cat (a := (((dec r.th) ++ ([46] : List UInt8)) ++ (dec r.ve))) (b := flg r.rd [114]) rfl rfl (Nat.le_trans (Ym (Ym (Yr r.th) (Nat.le_refl _)) (Yr r.ve)) (by decide)) (Nat.le_trans (Kk r.rd 114) (by decide)) rfl ?_
     exact wpo_nil ⟨rfl, hi238⟩
    refine Xd rfl (fun w240 hi241 => ?_) ?_
    ·
     have hb242 := low0 hb107 hi241
     refine wpo_fieldAddr (o' := 3) Ul rfl rfl rfl ?_
     exact wpo_nil ⟨rfl, hi241⟩
    refine Xd rfl (fun w243 hi244 => ?_) ?_
    ·
     have hb245 := low0 hb107 hi244
     have k246 := (k112.grown0 hi244)
     refine wpo_load1 (v := .bool r.wr) J9 rfl (k246.cell rfl) rfl ?_
     exact wpo_nil ⟨rfl, hi244⟩
    refine Xd rfl (fun w247 hi248 => ?_) ?_
    ·
     have hb249 := low0 hb107 hi248
     refine Xi (vs := [.bool r.wr, .string ⟨([119] : List UInt8).toArray⟩]) S0 (Xc rfl (Xc rfl Xg)) rfl (Sy r.wr [119] _) ?_
     rintro _ w250 ⟨rfl, hg251⟩
     have hb252 := low0 hb249 hg251
     exact wpo_nil ⟨rfl, (Xj hi248 hg251)⟩
    refine Xd rfl (fun w253 hi254 => ?_) ?_
    ·
     have hb255 := low0 hb107 hi254
     refine wpo_cat (a := ((((dec r.th) ++ ([46] : List UInt8)) ++ (dec r.ve)) ++ (flg r.rd [114]))) (b := flg r.wr [119]) rfl rfl (Nat.le_trans (Ym (Ym (Ym (Yr r.th) (Nat.le_refl _)) (Yr r.ve)) (Kk r.rd 114)) (by decide)) (Nat.le_trans (Kk r.wr 119) (by decide)) rfl ?_
     exact wpo_nil ⟨rfl, hi254⟩
    refine Xd rfl (fun w256 hi257 => ?_) ?_
    ·
     have hb258 := low0 hb107 hi257
     refine wpo_fieldAddr (o' := 4) Um rfl rfl rfl ?_
     exact wpo_nil ⟨rfl, hi257⟩
    refine Xd rfl (fun w259 hi260 => ?_) ?_
    ·
     have hb261 := low0 hb107 hi260
     have k262 := (k112.grown0 hi260)
     refine wpo_load1 (v := .bool r.wk) J9 rfl (k262.cell rfl) rfl ?_
     exact wpo_nil ⟨rfl, hi260⟩
    refine Xd rfl (fun w263 hi264 => ?_) ?_
    ·
     have hb265 := low0 hb107 hi264
     refine Xi (vs := [.bool r.wk, .string ⟨([107] : List UInt8).toArray⟩]) S0 (Xc rfl (Xc rfl Xg)) rfl (Sy r.wk [107] _) ?_
     rintro _ w266 ⟨rfl, hg267⟩
     have hb268 := low0 hb265 hg267
     exact wpo_nil ⟨rfl, (Xj hi264 hg267)⟩
    exact Qc
   ·
    intro w269 hi270
    have hb271 := low0 hb107 hi270
    refine wpo_cat (a := (((((dec r.th) ++ ([46] : List UInt8)) ++ (dec r.ve)) ++ (flg r.rd [114])) ++ (flg r.wr [119]))) (b := flg r.wk [107]) rfl rfl (Nat.le_trans (Ym (Ym (Ym (Ym (Yr r.th) (Nat.le_refl _)) (Yr r.ve)) (Kk r.rd 114)) (Kk r.wr 119)) (by decide)) (Nat.le_trans (Kk r.wk 107) (by decide)) rfl ?_
    refine wpo_assign (v := .string ⟨((((((dec r.th) ++ ([46] : List UInt8)) ++ (dec r.ve)) ++ (flg r.rd [114])) ++ (flg r.wr [119])) ++ (flg r.wk [107])).toArray⟩) rfl rfl ?_
    refine wpo_nil ?_
    refine Xo ?_
    refine Xk ?_
    refine ⟨.string ⟨((((((dec r.th) ++ ([46] : List UInt8)) ++ (dec r.ve)) ++ (flg r.rd [114])) ++ (flg r.wr [119])) ++ (flg r.wk [107])).toArray⟩, res1 rfl rfl, ?_, hb271⟩
    exact congrArg (fun z : List UInt8 => Value.string ⟨z.toArray⟩) (((if_pos h110).trans (if_neg (of_decide_eq_false h113))).symm)
theorem Zt [Comp] (m : MTh) (w : World) (hok : thingOk m.t = true) (hs : SlAt w m.sa 5 (m.t.slots.map Rt.cells)) (hq : SlAt w m.qa 1 (m.t.queue.map icell)) (hsl : m.t.slots.length ≤ 9223372036854775806) (hql : m.t.queue.length ≤ 9223372036854775806) : CallsR Try.prog 101 #[.agg #[.int .i64 m.t.kind, .int .i64 m.t.lab.s, .int .i64 m.t.lab.v, .int .i64 m.t.ve, .int .i64 m.t.num, .slice m.sa m.t.slots.length m.sc, .slice m.qa m.t.queue.length m.qc, .int .i64 m.t.to]] w (fun v w' => v = .string ⟨(thtx m.t).toArray⟩ ∧ w.grownBy w' none) := by
 refine Xl (n := 69) Try.func101 rfl Try.ntmps101 rfl ?_
 have hb0 := World.grownBy.refl w none
 have hr7 := Lf hok
 obtain ⟨hr1, hr2, hr3, hr4, hr5, hr6, hr8⟩ := hr7
 refine Xa ?_
 refine wpo_box (v := .agg #[.int .i64 m.t.kind, .int .i64 m.t.lab.s, .int .i64 m.t.lab.v, .int .i64 m.t.ve, .int .i64 m.t.num, .slice m.sa m.t.slots.length m.sc, .slice m.qa m.t.queue.length m.qc, .int .i64 m.t.to]) (cs := #[.int .i64 m.t.kind, .int .i64 m.t.lab.s, .int .i64 m.t.lab.v, .int .i64 m.t.ve, .int .i64 m.t.num, .slice m.sa m.t.slots.length m.sc, .slice m.qa m.t.queue.length m.qc, .int .i64 m.t.to]) rfl rfl rfl ?_
 intro B101 w102 hN103
 have hlB101 := Xv hN103 hb0
 have hb104 := low0 hb0 hN103.grw
 refine wpo_assign (v := .string ⟨([] : List UInt8).toArray⟩) rfl rfl ?_
 refine wpo_nil ?_
 refine Xh ?_
 refine J7 (m := 19) [[], [], [1], [0, 1, 2], [0, 1, 2, 3], [0, 1, 2, 3, 4], [], [6], [6, 7], [0, 1, 2, 3, 4, 5, 6, 7, 8], [0, 1, 2, 3, 4, 5, 6, 7, 8, 9], [], [11], [6, 7, 8, 11, 12], [0, 1, 2, 3, 4, 5, 6, 7, 8, 9, 10, 11, 12, 13], [0, 1, 2, 3, 4, 5, 6, 7, 8, 9, 10, 11, 12, 13, 14], [], [16], [6, 7, 8, 11, 12, 13, 16, 17], [0, 1, 2, 3, 4, 5, 6, 7, 8, 9, 10, 11, 12, 13, 14, 15, 16, 17, 18], [0, 1, 2, 3, 4, 5, 6, 7, 8, 9, 10, 11, 12, 13, 14, 15, 16, 17, 18, 19]] (fun S F w' => ∃ (B153 : Nat), w102.grownBy w' none ∧ F 1 = .pointer (some ⟨B101, 0, none⟩) ∧ F 2 = .string ⟨([] : List UInt8).toArray⟩ ∧ (S 0 = true → F 6 = .slice (some ⟨B153, 0, none⟩) 6 6 ∧ w.heap.size ≤ B153 ∧ Blk w' B153 9 (names6.flatMap scell).toArray ∧ B101 < B153 ∧ w102.heap.size ≤ B153) ∧ (S 3 = true → F 9 = .pointer (some ⟨B153, (m.t.kind).toNat * 1, none⟩)) ∧ Vals S F [(1, 7, .pointer (some ⟨B101, 0, none⟩)), (2, 8, .int .i64 m.t.kind), (4, 10, .string ⟨(kname m.t.kind).toArray⟩), (5, 11, .string ⟨((kname m.t.kind) ++ ([32] : List UInt8)).toArray⟩), (6, 12, .pointer (some ⟨B101, 1, none⟩)), (7, 13, .agg #[.int .i64 m.t.lab.s, .int .i64 m.t.lab.v]), (8, 14, .string ⟨(labtx m.t.lab).toArray⟩), (9, 15, .string ⟨(((kname m.t.kind) ++ ([32] : List UInt8)) ++ (labtx m.t.lab)).toArray⟩), (10, 16, .string ⟨((((kname m.t.kind) ++ ([32] : List UInt8)) ++ (labtx m.t.lab)) ++ ([32] : List UInt8)).toArray⟩), (11, 17, .pointer (some ⟨B101, 3, none⟩)), (12, 18, .int .i64 m.t.ve), (13, 19, .string ⟨(dec m.t.ve).toArray⟩), (14, 20, .string ⟨(((((kname m.t.kind) ++ ([32] : List UInt8)) ++ (labtx m.t.lab)) ++ ([32] : List UInt8)) ++ (dec m.t.ve)).toArray⟩), (15, 21, .string ⟨((((((kname m.t.kind) ++ ([32] : List UInt8)) ++ (labtx m.t.lab)) ++ ([32] : List UInt8)) ++ (dec m.t.ve)) ++ ([32] : List UInt8)).toArray⟩), (16, 22, .pointer (some ⟨B101, 4, none⟩)), (17, 23, .int .i64 m.t.num), (18, 24, .string ⟨(dec m.t.num).toArray⟩)]) Qd (by kernel_rfl) ⟨0, X4 _, rfl, rfl, Qw, Qw, Ug _⟩ ?_ ?_
 ·
  refine Xn (fun S F w169 hS hbef hcl hI => ?_) ?_
  ·
   obtain ⟨B153, hi170, e171, e172, c_0, c_3, hvs⟩ := hI
   have hb173 := low0 hb104 hi170
   refine wpo_buildSlice (ps := [(0, .string ⟨([] : List UInt8).toArray⟩), (1, .string ⟨([112, 97, 103, 101] : List UInt8).toArray⟩), (2, .string ⟨([110, 111, 100, 101] : List UInt8).toArray⟩), (3, .string ⟨([114, 117, 110] : List UInt8).toArray⟩), (4, .string ⟨([112, 105, 112, 101] : List UInt8).toArray⟩), (5, .string ⟨([103, 97, 116, 101] : List UInt8).toArray⟩)]) (e := 9) (cs := (names6.flatMap scell).toArray) (Xw rfl (Xw rfl (Xw rfl (Xw rfl (Xw rfl (Xw rfl X9)))))) (fun _ => by kernel_rfl) rfl ?_
   intro B174 w175 hN176
   have hlB174 := Xv hN176 hb173
   have k177 := (hN103.blk.grown0 hi170)
   have lt_B101_B174 := Xr hN176 (k177).lt
   have hb178 := low0 hb173 hN176.grw
   exact wpo_nil ⟨B174, (low0 hi170 hN176.grw), e171, e172, fun _ => ⟨rfl, hlB174, hN176.blk, lt_B101_B174, (Nat.le_trans hi170.size hN176.ge)⟩, fun h => Xq 3 hS hcl rfl h, Vals.keep hvs rfl⟩
  refine Xn (fun S F w179 hS hbef hcl hI => ?_) ?_
  ·
   obtain ⟨B153, hi180, e181, e182, c_0, c_3, hvs⟩ := hI
   have hb183 := low0 hb104 hi180
   refine wpo_fieldAddr (o' := 0) Yg e181 rfl rfl ?_
   exact wpo_nil ⟨B153, hi180, e181, e182, c_0, fun h => Xq 3 hS hcl rfl h, Vals.up 0 hvs rfl rfl rfl⟩
  refine Xn (fun S F w184 hS hbef hcl hI => ?_) ?_
  ·
   obtain ⟨B153, hi185, e186, e187, c_0, c_3, hvs⟩ := hI
   have hb188 := low0 hb104 hi185
   have ev189 := Vals.at 0 hvs rfl (Xf 1 hbef rfl)
   have k190 := (hN103.blk.grown0 hi185)
   refine wpo_load1 (v := .int .i64 m.t.kind) X1 ev189 (k190.cell rfl) rfl ?_
   exact wpo_nil ⟨B153, hi185, e186, e187, c_0, fun h => Xq 3 hS hcl rfl h, Vals.up 1 hvs rfl rfl rfl⟩
  refine Xn (fun S F w191 hS hbef hcl hI => ?_) ?_
  ·
   obtain ⟨B153, hi192, e193, e194, c_0, c_3, hvs⟩ := hI
   have hb195 := low0 hb104 hi192
   obtain ⟨e196, hlB153, kb_B153, lt_B101_B153, hk_B153⟩ := c_0 (Xf 0 hbef rfl)
   have ev197 := Vals.at 0 hvs rfl (Xf 1 hbef rfl)
   have ev198 := Vals.at 1 hvs rfl (Xf 2 hbef rfl)
   refine wpo_indexAddr (o' := (m.t.kind).toNat * 1) O4 e196 ev198 (by omega) (by omega) (by omega) rfl ?_
   exact wpo_nil ⟨B153, hi192, e193, e194, c_0, fun _ => rfl, Vals.keep hvs rfl⟩
  refine Xn (fun S F w199 hS hbef hcl hI => ?_) ?_
  ·
   obtain ⟨B153, hi200, e201, e202, c_0, c_3, hvs⟩ := hI
   have hb203 := low0 hb104 hi200
   obtain ⟨e204, hlB153, kb_B153, lt_B101_B153, hk_B153⟩ := c_0 (Xf 0 hbef rfl)
   have ev205 := Vals.at 0 hvs rfl (Xf 1 hbef rfl)
   have ev206 := Vals.at 1 hvs rfl (Xf 2 hbef rfl)
   obtain e207 := c_3 (Xf 3 hbef rfl)
   refine wpo_load1 (v := .string ⟨(kname m.t.kind).toArray⟩) Xbl e207 ((H4 Eu kb_B153 (S7 (k := m.t.kind) (by omega))) 0 _ rfl) rfl ?_
   exact wpo_nil ⟨B153, hi200, e201, e202, c_0, c_3, Vals.up 2 hvs rfl rfl rfl⟩
  refine Xn (fun S F w208 hS hbef hcl hI => ?_) ?_
  ·
   obtain ⟨B153, hi209, e210, e211, c_0, c_3, hvs⟩ := hI
   have hb212 := low0 hb104 hi209
   obtain ⟨e213, hlB153, kb_B153, lt_B101_B153, hk_B153⟩ := c_0 (Xf 0 hbef rfl)
   have ev214 := Vals.at 0 hvs rfl (Xf 1 hbef rfl)
   have ev215 := Vals.at 1 hvs rfl (Xf 2 hbef rfl)
   obtain e216 := c_3 (Xf 3 hbef rfl)
   have ev217 := Vals.at 2 hvs rfl (Xf 4 hbef rfl)
   refine wpo_cat (a := kname m.t.kind) (b := ([32] : List UInt8)) ev217 rfl (Nat.le_trans (Kb m.t.kind) (by decide)) (Nat.le_trans (Nat.le_refl _) (by decide)) rfl ?_
   exact wpo_nil ⟨B153, hi209, e210, e211, c_0, c_3, Vals.up 3 hvs rfl rfl rfl⟩
  refine Xn (fun S F w218 hS hbef hcl hI => ?_) ?_
  ·
   obtain ⟨B153, hi219, e220, e221, c_0, c_3, hvs⟩ := hI
   have hb222 := low0 hb104 hi219
   refine wpo_fieldAddr (o' := 1) Ju e220 rfl rfl ?_
   exact wpo_nil ⟨B153, hi219, e220, e221, c_0, c_3, Vals.up 4 hvs rfl rfl rfl⟩
  refine Xn (fun S F w223 hS hbef hcl hI => ?_) ?_
  ·
   obtain ⟨B153, hi224, e225, e226, c_0, c_3, hvs⟩ := hI
   have hb227 := low0 hb104 hi224
   have ev228 := Vals.at 4 hvs rfl (Xf 6 hbef rfl)
   have k229 := (hN103.blk.grown0 hi224)
   refine wpo_loadn (vs := [.int .i64 m.t.lab.s, .int .i64 m.t.lab.v]) Qg ev228 rfl (k229.rangeL 1 2 rfl) rfl ?_
   exact wpo_nil ⟨B153, hi224, e225, e226, c_0, c_3, Vals.up 5 hvs rfl rfl rfl⟩
  refine Xn (fun S F w230 hS hbef hcl hI => ?_) ?_
  ·
   obtain ⟨B153, hi231, e232, e233, c_0, c_3, hvs⟩ := hI
   have hb234 := low0 hb104 hi231
   have ev235 := Vals.at 4 hvs rfl (Xf 6 hbef rfl)
   have ev236 := Vals.at 5 hvs rfl (Xf 7 hbef rfl)
   refine Xi (vs := [.agg #[.int .i64 m.t.lab.s, .int .i64 m.t.lab.v]]) Zi (Xc ev236 Xg) rfl (Fp m.t.lab _) ?_
   rintro _ w237 ⟨rfl, hg238⟩
   have hb239 := low0 hb234 hg238
   exact wpo_nil ⟨B153, (low0 hi231 hg238), e232, e233, fun h => let ⟨y240, y241, y242, y243, y244⟩ := c_0 h; ⟨y240, y241, (y242).grown0 hg238, y243, y244⟩, c_3, Vals.up 6 hvs rfl rfl rfl⟩
  refine Xn (fun S F w245 hS hbef hcl hI => ?_) ?_
  ·
   obtain ⟨B153, hi246, e247, e248, c_0, c_3, hvs⟩ := hI
   have hb249 := low0 hb104 hi246
   obtain ⟨e250, hlB153, kb_B153, lt_B101_B153, hk_B153⟩ := c_0 (Xf 0 hbef rfl)
   have ev251 := Vals.at 0 hvs rfl (Xf 1 hbef rfl)
   have ev252 := Vals.at 1 hvs rfl (Xf 2 hbef rfl)
   obtain e253 := c_3 (Xf 3 hbef rfl)
   have ev254 := Vals.at 2 hvs rfl (Xf 4 hbef rfl)
   have ev255 := Vals.at 3 hvs rfl (Xf 5 hbef rfl)
   have ev256 := Vals.at 4 hvs rfl (Xf 6 hbef rfl)
   have ev257 := Vals.at 5 hvs rfl (Xf 7 hbef rfl)
   have ev258 := Vals.at 6 hvs rfl (Xf 8 hbef rfl)
   refine wpo_cat (a := ((kname m.t.kind) ++ ([32] : List UInt8))) (b := labtx m.t.lab) ev255 ev258 (Nat.le_trans (Ym (Kb m.t.kind) (Nat.le_refl _)) (by decide)) (Nat.le_trans (Kr m.t.lab) (by decide)) rfl ?_
   exact wpo_nil ⟨B153, hi246, e247, e248, c_0, c_3, Vals.up 7 hvs rfl rfl rfl⟩
  refine Xn (fun S F w259 hS hbef hcl hI => ?_) ?_
  ·
   obtain ⟨B153, hi260, e261, e262, c_0, c_3, hvs⟩ := hI
   have hb263 := low0 hb104 hi260
   obtain ⟨e264, hlB153, kb_B153, lt_B101_B153, hk_B153⟩ := c_0 (Xf 0 hbef rfl)
   have ev265 := Vals.at 0 hvs rfl (Xf 1 hbef rfl)
   have ev266 := Vals.at 1 hvs rfl (Xf 2 hbef rfl)
   obtain e267 := c_3 (Xf 3 hbef rfl)
   have ev268 := Vals.at 2 hvs rfl (Xf 4 hbef rfl)
   have ev269 := Vals.at 3 hvs rfl (Xf 5 hbef rfl)
   have ev270 := Vals.at 4 hvs rfl (Xf 6 hbef rfl)
   have ev271 := Vals.at 5 hvs rfl (Xf 7 hbef rfl)
   have ev272 := Vals.at 6 hvs rfl (Xf 8 hbef rfl)
   have ev273 := Vals.at 7 hvs rfl (Xf 9 hbef rfl)
   refine wpo_cat (a := (((kname m.t.kind) ++ ([32] : List UInt8)) ++ (labtx m.t.lab))) (b := ([32] : List UInt8)) ev273 rfl (Nat.le_trans (Ym (Ym (Kb m.t.kind) (Nat.le_refl _)) (Kr m.t.lab)) (by decide)) (Nat.le_trans (Nat.le_refl _) (by decide)) rfl ?_
   exact wpo_nil ⟨B153, hi260, e261, e262, c_0, c_3, Vals.up 8 hvs rfl rfl rfl⟩
  refine Xn (fun S F w274 hS hbef hcl hI => ?_) ?_
  ·
   obtain ⟨B153, hi275, e276, e277, c_0, c_3, hvs⟩ := hI
   have hb278 := low0 hb104 hi275
   refine wpo_fieldAddr (o' := 3) Ji e276 rfl rfl ?_
   exact wpo_nil ⟨B153, hi275, e276, e277, c_0, c_3, Vals.up 9 hvs rfl rfl rfl⟩
  refine Xn (fun S F w279 hS hbef hcl hI => ?_) ?_
  ·
   obtain ⟨B153, hi280, e281, e282, c_0, c_3, hvs⟩ := hI
   have hb283 := low0 hb104 hi280
   have ev284 := Vals.at 9 hvs rfl (Xf 11 hbef rfl)
   have k285 := (hN103.blk.grown0 hi280)
   refine wpo_load1 (v := .int .i64 m.t.ve) X1 ev284 (k285.cell rfl) rfl ?_
   exact wpo_nil ⟨B153, hi280, e281, e282, c_0, c_3, Vals.up 10 hvs rfl rfl rfl⟩
  refine Xn (fun S F w286 hS hbef hcl hI => ?_) ?_
  ·
   obtain ⟨B153, hi287, e288, e289, c_0, c_3, hvs⟩ := hI
   have hb290 := low0 hb104 hi287
   have ev291 := Vals.at 4 hvs rfl (Xf 6 hbef rfl)
   have ev292 := Vals.at 5 hvs rfl (Xf 7 hbef rfl)
   have ev293 := Vals.at 6 hvs rfl (Xf 8 hbef rfl)
   have ev294 := Vals.at 9 hvs rfl (Xf 11 hbef rfl)
   have ev295 := Vals.at 10 hvs rfl (Xf 12 hbef rfl)
   refine Xi (vs := [.int .i64 m.t.ve]) Kx (Xc ev295 Xg) rfl (Wl m.t.ve (by omega) _) ?_
   rintro _ w296 ⟨rfl, hg297⟩
   have hb298 := low0 hb290 hg297
   exact wpo_nil ⟨B153, (low0 hi287 hg297), e288, e289, fun h => let ⟨y299, y300, y301, y302, y303⟩ := c_0 h; ⟨y299, y300, (y301).grown0 hg297, y302, y303⟩, c_3, Vals.up 11 hvs rfl rfl rfl⟩
  refine Xn (fun S F w304 hS hbef hcl hI => ?_) ?_
  ·
   obtain ⟨B153, hi305, e306, e307, c_0, c_3, hvs⟩ := hI
   have hb308 := low0 hb104 hi305
   obtain ⟨e309, hlB153, kb_B153, lt_B101_B153, hk_B153⟩ := c_0 (Xf 0 hbef rfl)
   have ev310 := Vals.at 0 hvs rfl (Xf 1 hbef rfl)
   have ev311 := Vals.at 1 hvs rfl (Xf 2 hbef rfl)
   obtain e312 := c_3 (Xf 3 hbef rfl)
   have ev313 := Vals.at 2 hvs rfl (Xf 4 hbef rfl)
   have ev314 := Vals.at 3 hvs rfl (Xf 5 hbef rfl)
   have ev315 := Vals.at 4 hvs rfl (Xf 6 hbef rfl)
   have ev316 := Vals.at 5 hvs rfl (Xf 7 hbef rfl)
   have ev317 := Vals.at 6 hvs rfl (Xf 8 hbef rfl)
   have ev318 := Vals.at 7 hvs rfl (Xf 9 hbef rfl)
   have ev319 := Vals.at 8 hvs rfl (Xf 10 hbef rfl)
   have ev320 := Vals.at 9 hvs rfl (Xf 11 hbef rfl)
   have ev321 := Vals.at 10 hvs rfl (Xf 12 hbef rfl)
   have ev322 := Vals.at 11 hvs rfl (Xf 13 hbef rfl)
   refine wpo_cat (a := ((((kname m.t.kind) ++ ([32] : List UInt8)) ++ (labtx m.t.lab)) ++ ([32] : List UInt8))) (b := dec m.t.ve) ev319 ev322 (Nat.le_trans (Ym (Ym (Ym (Kb m.t.kind) (Nat.le_refl _)) (Kr m.t.lab)) (Nat.le_refl _)) (by decide)) (Nat.le_trans (Yr m.t.ve) (by decide)) rfl ?_
   exact wpo_nil ⟨B153, hi305, e306, e307, c_0, c_3, Vals.up 12 hvs rfl rfl rfl⟩
  refine Xn (fun S F w323 hS hbef hcl hI => ?_) ?_
  ·
   obtain ⟨B153, hi324, e325, e326, c_0, c_3, hvs⟩ := hI
   have hb327 := low0 hb104 hi324
   obtain ⟨e328, hlB153, kb_B153, lt_B101_B153, hk_B153⟩ := c_0 (Xf 0 hbef rfl)
   have ev329 := Vals.at 0 hvs rfl (Xf 1 hbef rfl)
   have ev330 := Vals.at 1 hvs rfl (Xf 2 hbef rfl)
   obtain e331 := c_3 (Xf 3 hbef rfl)
   have ev332 := Vals.at 2 hvs rfl (Xf 4 hbef rfl)
   have ev333 := Vals.at 3 hvs rfl (Xf 5 hbef rfl)
   have ev334 := Vals.at 4 hvs rfl (Xf 6 hbef rfl)
   have ev335 := Vals.at 5 hvs rfl (Xf 7 hbef rfl)
   have ev336 := Vals.at 6 hvs rfl (Xf 8 hbef rfl)
   have ev337 := Vals.at 7 hvs rfl (Xf 9 hbef rfl)
   have ev338 := Vals.at 8 hvs rfl (Xf 10 hbef rfl)
   have ev339 := Vals.at 9 hvs rfl (Xf 11 hbef rfl)
   have ev340 := Vals.at 10 hvs rfl (Xf 12 hbef rfl)
   have ev341 := Vals.at 11 hvs rfl (Xf 13 hbef rfl)
   have ev342 := Vals.at 12 hvs rfl (Xf 14 hbef rfl)
   refine wpo_cat (a := (((((kname m.t.kind) ++ ([32] : List UInt8)) ++ (labtx m.t.lab)) ++ ([32] : List UInt8)) ++ (dec m.t.ve))) (b := ([32] : List UInt8)) ev342 rfl (Nat.le_trans (Ym (Ym (Ym (Ym (Kb m.t.kind) (Nat.le_refl _)) (Kr m.t.lab)) (Nat.le_refl _)) (Yr m.t.ve)) (by decide)) (Nat.le_trans (Nat.le_refl _) (by decide)) rfl ?_
   exact wpo_nil ⟨B153, hi324, e325, e326, c_0, c_3, Vals.up 13 hvs rfl rfl rfl⟩
  refine Xn (fun S F w343 hS hbef hcl hI => ?_) ?_
  ·
   obtain ⟨B153, hi344, e345, e346, c_0, c_3, hvs⟩ := hI
   have hb347 := low0 hb104 hi344
   refine wpo_fieldAddr (o' := 4) Jv e345 rfl rfl ?_
   exact wpo_nil ⟨B153, hi344, e345, e346, c_0, c_3, Vals.up 14 hvs rfl rfl rfl⟩
  refine Xn (fun S F w348 hS hbef hcl hI => ?_) ?_
  ·
   obtain ⟨B153, hi349, e350, e351, c_0, c_3, hvs⟩ := hI
   have hb352 := low0 hb104 hi349
   have ev353 := Vals.at 14 hvs rfl (Xf 16 hbef rfl)
   have k354 := (hN103.blk.grown0 hi349)
   refine wpo_load1 (v := .int .i64 m.t.num) X1 ev353 (k354.cell rfl) rfl ?_
   exact wpo_nil ⟨B153, hi349, e350, e351, c_0, c_3, Vals.up 15 hvs rfl rfl rfl⟩
  refine Xn (fun S F w355 hS hbef hcl hI => ?_) ?_
  ·
   obtain ⟨B153, hi356, e357, e358, c_0, c_3, hvs⟩ := hI
   have hb359 := low0 hb104 hi356
   have ev360 := Vals.at 4 hvs rfl (Xf 6 hbef rfl)
   have ev361 := Vals.at 5 hvs rfl (Xf 7 hbef rfl)
   have ev362 := Vals.at 6 hvs rfl (Xf 8 hbef rfl)
   have ev363 := Vals.at 9 hvs rfl (Xf 11 hbef rfl)
   have ev364 := Vals.at 10 hvs rfl (Xf 12 hbef rfl)
   have ev365 := Vals.at 11 hvs rfl (Xf 13 hbef rfl)
   have ev366 := Vals.at 14 hvs rfl (Xf 16 hbef rfl)
   have ev367 := Vals.at 15 hvs rfl (Xf 17 hbef rfl)
   refine Xi (vs := [.int .i64 m.t.num]) Kx (Xc ev367 Xg) rfl (Wl m.t.num (by omega) _) ?_
   rintro _ w368 ⟨rfl, hg369⟩
   have hb370 := low0 hb359 hg369
   exact wpo_nil ⟨B153, (low0 hi356 hg369), e357, e358, fun h => let ⟨y371, y372, y373, y374, y375⟩ := c_0 h; ⟨y371, y372, (y373).grown0 hg369, y374, y375⟩, c_3, Vals.up 16 hvs rfl rfl rfl⟩
  exact Kh
 ·
  intro S F w376 hall hI
  obtain ⟨B153, hi377, e378, e379, c_0, c_3, hvs⟩ := hI
  have hb380 := low0 hb104 hi377
  obtain ⟨e381, hlB153, kb_B153, lt_B101_B153, hk_B153⟩ := c_0 (hall 0 (by decide))
  have ev382 := Vals.at 0 hvs rfl (hall 1 (by decide))
  have ev383 := Vals.at 1 hvs rfl (hall 2 (by decide))
  obtain e384 := c_3 (hall 3 (by decide))
  have ev385 := Vals.at 2 hvs rfl (hall 4 (by decide))
  have ev386 := Vals.at 3 hvs rfl (hall 5 (by decide))
  have ev387 := Vals.at 4 hvs rfl (hall 6 (by decide))
  have ev388 := Vals.at 5 hvs rfl (hall 7 (by decide))
  have ev389 := Vals.at 6 hvs rfl (hall 8 (by decide))
  have ev390 := Vals.at 7 hvs rfl (hall 9 (by decide))
  have ev391 := Vals.at 8 hvs rfl (hall 10 (by decide))
  have ev392 := Vals.at 9 hvs rfl (hall 11 (by decide))
  have ev393 := Vals.at 10 hvs rfl (hall 12 (by decide))
  have ev394 := Vals.at 11 hvs rfl (hall 13 (by decide))
  have ev395 := Vals.at 12 hvs rfl (hall 14 (by decide))
  have ev396 := Vals.at 13 hvs rfl (hall 15 (by decide))
  have ev397 := Vals.at 14 hvs rfl (hall 16 (by decide))
  have ev398 := Vals.at 15 hvs rfl (hall 17 (by decide))
  have ev399 := Vals.at 16 hvs rfl (hall 18 (by decide))
  refine wpo_cat (a := ((((((kname m.t.kind) ++ ([32] : List UInt8)) ++ (labtx m.t.lab)) ++ ([32] : List UInt8)) ++ (dec m.t.ve)) ++ ([32] : List UInt8))) (b := dec m.t.num) ev396 ev399 (Nat.le_trans (Ym (Ym (Ym (Ym (Ym (Kb m.t.kind) (Nat.le_refl _)) (Kr m.t.lab)) (Nat.le_refl _)) (Yr m.t.ve)) (Nat.le_refl _)) (by decide)) (Nat.le_trans (Yr m.t.num) (by decide)) rfl ?_
  refine wpo_assign (v := .string ⟨(((((((kname m.t.kind) ++ ([32] : List UInt8)) ++ (labtx m.t.lab)) ++ ([32] : List UInt8)) ++ (dec m.t.ve)) ++ ([32] : List UInt8)) ++ (dec m.t.num)).toArray⟩) rfl rfl ?_
  refine wpo_nil ?_
  refine Xo ?_
  refine Xh ?_
  refine Xa ?_
  refine wpo_assign (v := .int .i64 0) rfl rfl ?_
  refine wpo_nil ?_
  refine Xu ?_
  have k400 := (hN103.blk.grown0 hi377)
  refine Yf (fun mm f' w' => ∃ (k : Nat), mm = m.t.slots.length - k ∧ k ≤ m.t.slots.length ∧ f' 3 = .string ⟨(ah3 m.t k).toArray⟩ ∧ f' 4 = .int .i64 (k : Int) ∧ f' 1 = .pointer (some ⟨B101, 0, none⟩) ∧ f' 2 = .string ⟨([] : List UInt8).toArray⟩ ∧ w.grownBy w' none ∧ Blk w' B101 35 #[.int .i64 m.t.kind, .int .i64 m.t.lab.s, .int .i64 m.t.lab.v, .int .i64 m.t.ve, .int .i64 m.t.num, .slice m.sa m.t.slots.length m.sc, .slice m.qa m.t.queue.length m.qc, .int .i64 m.t.to]) (m.t.slots.length - 0) ⟨0, rfl, (Nat.zero_le _), (congrArg sv (by first | exact Is _ | exact Iu ‹_›)), rfl, e378, e379, hb380, k400⟩ ?_
  rintro mm f401 w402 ⟨k, hm404, hk, e405, e406, e407, e408, hb403, k409⟩
  refine Xh ?_
  refine Xa ?_
  refine wpo_move (v := .int .i64 (k : Int)) e406 rfl ?_
  refine wpo_fieldAddr (o' := 5) Y7 e407 rfl rfl ?_
  refine wpo_load1 (v := .slice m.sa m.t.slots.length m.sc) Jl rfl (k409.cell rfl) rfl ?_
  refine wpo_len (by kernel_rfl) rfl rfl ?_
  refine wpo_lss (q := decide ((k : Int) < (m.t.slots.length : Int))) rfl rfl rfl rfl ?_
  refine wpo_nil ?_
  refine Xp rfl (fun h410 => ?_) (fun h410 => ?_)
  ·
   have h411 := of_decide_eq_true h410
   refine Xm ?_
   refine Xo ?_
   refine Xh ?_
   refine Xu ?_
   refine Xs ?_
   refine wpo_move (v := .string ⟨(ah3 m.t k).toArray⟩) e405 rfl ?_
   refine wpo_cat (a := ah3 m.t k) (b := ([32] : List UInt8)) rfl rfl (Nat.le_trans (Nd hr5) (by decide)) (Nat.le_trans (Nat.le_refl _) (by decide)) rfl ?_
   refine wpo_fieldAddr (o' := 5) Y7 e407 rfl rfl ?_
   refine wpo_load1 (v := .slice m.sa m.t.slots.length m.sc) Jl rfl (k409.cell rfl) rfl ?_
   refine wpo_move (v := .int .i64 (k : Int)) e406 rfl ?_
   obtain ⟨x412, hx413⟩ := Qx (l := m.t.slots) (i := k) (by omega)
   obtain ⟨b414, q415, o416, ha417, ho418, hr419⟩ := SlAt.at hs (Yc hx413)
   refine Xz Wo rfl rfl ha417 ho418 (by omega) (by omega) rfl ?_
   refine wpo_loadn (vs := [.int .i64 x412.th, .int .i64 x412.ve, .bool x412.rd, .bool x412.wr, .bool x412.wk]) Js rfl rfl (Yq (Yd hr419 hb403) 0 5 rfl) rfl ?_
   refine Xi (vs := [.agg #[.int .i64 x412.th, .int .i64 x412.ve, .bool x412.rd, .bool x412.wr, .bool x412.wk]]) Zj (Xc rfl Xg) rfl (Xba x412 _) ?_
   rintro _ w420 ⟨rfl, hg421⟩
   have hb422 := low0 hb403 hg421
   refine wpo_cat (a := ((ah3 m.t k) ++ ([32] : List UInt8))) (b := rtx x412) rfl rfl (Nat.le_trans (Ym (Nd hr5) (Nat.le_refl _)) (by decide)) (Nat.le_trans (Ml x412) (by decide)) rfl ?_
   refine wpo_assign (v := .string ⟨(((ah3 m.t k) ++ ([32] : List UInt8)) ++ (rtx x412)).toArray⟩) rfl rfl ?_
   refine wpo_nil ?_
   refine Je ?_
   refine Xo ?_
   refine Xs ?_
   refine wpo_move (v := .int .i64 (k : Int)) e406 rfl ?_
   refine wpo_add (c := (k : Int) + 1) rfl rfl (by omega) (by omega) (by omega) rfl ?_
   refine wpo_assign (v := .int .i64 ((k : Int) + 1)) rfl rfl ?_
   refine wpo_nil ?_
   refine Xo ?_
   have k423 := (k409.grown0 hg421)
   exact ⟨m.t.slots.length - (k + 1), by omega, (k + 1), rfl, (by omega), (congrArg sv (by first | exact Is _ | exact Iu ‹_›)), rfl, e407, e408, hb422, k423⟩
  ·
   have h424 := of_decide_eq_false h410
   refine Yo ?_
   refine Yz ?_
   refine Yz ?_
   refine Jn ?_
   refine Xo ?_
   refine Xh ?_
   refine Xa ?_
   refine wpo_assign (v := .int .i64 0) rfl rfl ?_
   refine wpo_nil ?_
   refine Xu ?_
   refine Yf (fun mm f' w' => ∃ (j : Nat), mm = m.t.queue.length - j ∧ j ≤ m.t.queue.length ∧ f' 3 = .string ⟨(bh3 m.t j).toArray⟩ ∧ f' 5 = .int .i64 (j : Int) ∧ f' 1 = .pointer (some ⟨B101, 0, none⟩) ∧ f' 2 = .string ⟨([] : List UInt8).toArray⟩ ∧ w.grownBy w' none ∧ Blk w' B101 35 #[.int .i64 m.t.kind, .int .i64 m.t.lab.s, .int .i64 m.t.lab.v, .int .i64 m.t.ve, .int .i64 m.t.num, .slice m.sa m.t.slots.length m.sc, .slice m.qa m.t.queue.length m.qc, .int .i64 m.t.to]) (m.t.queue.length - 0) ⟨0, rfl, (Nat.zero_le _), (e405.trans (congrArg sv (by first | exact Iz (by omega) (by omega) | exact I0 ‹_›))), rfl, e407, e408, hb403, k409⟩ ?_
   rintro mm f425 w426 ⟨j, hm428, hj, e429, e430, e431, e432, hb427, k433⟩
   refine Xh ?_
   refine Xa ?_
   refine wpo_move (v := .int .i64 (j : Int)) e430 rfl ?_
   refine wpo_fieldAddr (o' := 6) Qy e431 rfl rfl ?_
   refine wpo_load1 (v := .slice m.qa m.t.queue.length m.qc) J5 rfl (k433.cell rfl) rfl ?_
   refine wpo_len (by kernel_rfl) rfl rfl ?_
   refine wpo_lss (q := decide ((j : Int) < (m.t.queue.length : Int))) rfl rfl rfl rfl ?_
   refine wpo_nil ?_
   refine Xp rfl (fun h434 => ?_) (fun h434 => ?_)
   ·
    have h435 := of_decide_eq_true h434
    refine Xm ?_
    refine Xo ?_
    refine Xh ?_
    refine Xu ?_
    refine Xs ?_
    refine wpo_move (v := .string ⟨(bh3 m.t j).toArray⟩) e429 rfl ?_
    refine wpo_cat (a := bh3 m.t j) (b := ([32, 60] : List UInt8)) rfl rfl (Nat.le_trans (Vi hr5 hr6) (by decide)) (Nat.le_trans (Nat.le_refl _) (by decide)) rfl ?_
    refine wpo_fieldAddr (o' := 6) Qy e431 rfl rfl ?_
    refine wpo_load1 (v := .slice m.qa m.t.queue.length m.qc) J5 rfl (k433.cell rfl) rfl ?_
    refine wpo_move (v := .int .i64 (j : Int)) e430 rfl ?_
    obtain ⟨x436, hx437⟩ := Qx (l := m.t.queue) (i := j) (by omega)
    obtain ⟨b438, q439, o440, ha441, ho442, hr443⟩ := SlAt.at hq (Yc hx437)
    refine Xz Wq rfl rfl ha441 ho442 (by omega) (by omega) rfl ?_
    refine wpo_load1 (v := .int .i64 x436) X1 rfl ((Yd hr443 hb427) 0 _ rfl) rfl ?_
    refine Xi (vs := [.int .i64 x436]) Kx (Xc rfl Xg) rfl (Wl x436 (by have hq8 := hr8 _ (List.mem_of_getElem? hx437); omega) _) ?_
    rintro _ w444 ⟨rfl, hg445⟩
    have hb446 := low0 hb427 hg445
    refine wpo_cat (a := ((bh3 m.t j) ++ ([32, 60] : List UInt8))) (b := dec x436) rfl rfl (Nat.le_trans (Ym (Vi hr5 hr6) (Nat.le_refl _)) (by decide)) (Nat.le_trans (Yr x436) (by decide)) rfl ?_
    refine wpo_assign (v := .string ⟨(((bh3 m.t j) ++ ([32, 60] : List UInt8)) ++ (dec x436)).toArray⟩) rfl rfl ?_
    refine wpo_nil ?_
    refine Je ?_
    refine Xo ?_
    refine Xs ?_
    refine wpo_move (v := .int .i64 (j : Int)) e430 rfl ?_
    refine wpo_add (c := (j : Int) + 1) rfl rfl (by omega) (by omega) (by omega) rfl ?_
    refine wpo_assign (v := .int .i64 ((j : Int) + 1)) rfl rfl ?_
    refine wpo_nil ?_
    refine Xo ?_
    have k447 := (k433.grown0 hg445)
    exact ⟨m.t.queue.length - (j + 1), by omega, (j + 1), rfl, (by omega), (congrArg sv (by first | exact Iz (by omega) (by omega) | exact I0 ‹_›)), rfl, e431, e432, hb446, k447⟩
   ·
    have h448 := of_decide_eq_false h434
    refine Yo ?_
    refine Yz ?_
    refine Yz ?_
    refine Jn ?_
    refine Xo ?_
    refine Xh ?_
    refine Xa ?_
    refine wpo_fieldAddr (o' := 0) Yg e431 rfl rfl ?_
    refine wpo_load1 (v := .int .i64 m.t.kind) X1 rfl (k433.cell rfl) rfl ?_
    refine wpo_eql (q := decide (m.t.kind = 5)) rfl rfl rfl rfl ?_
    refine wpo_nil ?_
    refine Xp rfl (fun h449 => ?_) (fun h449 => ?_)
    ·
     have h450 := of_decide_eq_true h449
     refine Xs ?_
     refine wpo_move (v := .string ⟨(bh3 m.t j).toArray⟩) e429 rfl ?_
     refine wpo_cat (a := bh3 m.t j) (b := ([32, 62] : List UInt8)) rfl rfl (Nat.le_trans (Vi hr5 hr6) (by decide)) (Nat.le_trans (Nat.le_refl _) (by decide)) rfl ?_
     refine wpo_fieldAddr (o' := 7) Q1 e431 rfl rfl ?_
     refine wpo_load1 (v := .int .i64 m.t.to) X1 rfl (k433.cell rfl) rfl ?_
     refine Xi (vs := [.int .i64 m.t.to]) Kx (Xc rfl Xg) rfl (Wl m.t.to (by omega) _) ?_
     rintro _ w451 ⟨rfl, hg452⟩
     have hb453 := low0 hb427 hg452
     refine wpo_cat (a := ((bh3 m.t j) ++ ([32, 62] : List UInt8))) (b := dec m.t.to) rfl rfl (Nat.le_trans (Ym (Vi hr5 hr6) (Nat.le_refl _)) (by decide)) (Nat.le_trans (Yr m.t.to) (by decide)) rfl ?_
     refine wpo_assign (v := .string ⟨(((bh3 m.t j) ++ ([32, 62] : List UInt8)) ++ (dec m.t.to)).toArray⟩) rfl rfl ?_
     refine wpo_nil ?_
     refine Xo ?_
     refine Xa ?_
     refine wpo_move (v := .string ⟨(((bh3 m.t j) ++ ([32, 62] : List UInt8)) ++ (dec m.t.to)).toArray⟩) rfl rfl ?_
     refine wpo_cat (a := (((bh3 m.t j) ++ ([32, 62] : List UInt8)) ++ (dec m.t.to))) (b := ([10] : List UInt8)) rfl rfl (Nat.le_trans (Ym (Ym (Vi hr5 hr6) (Nat.le_refl _)) (Yr m.t.to)) (by decide)) (Nat.le_trans (Nat.le_refl _) (by decide)) rfl ?_
     refine wpo_assign (v := .string ⟨((((bh3 m.t j) ++ ([32, 62] : List UInt8)) ++ (dec m.t.to)) ++ ([10] : List UInt8)).toArray⟩) rfl rfl ?_
     refine wpo_nil ?_
     refine Xk ?_
     refine ⟨.string ⟨((((bh3 m.t j) ++ ([32, 62] : List UInt8)) ++ (dec m.t.to)) ++ ([10] : List UInt8)).toArray⟩, res1 rfl rfl, ?_, hb453⟩
     exact congrArg sv (by unfold thtx; rw [if_pos (of_decide_eq_true h449), Tz (by omega) (by omega)])
    ·
     have h454 := of_decide_eq_false h449
     refine Xm ?_
     refine Xo ?_
     refine Xa ?_
     refine wpo_move (v := .string ⟨(bh3 m.t j).toArray⟩) e429 rfl ?_
     refine wpo_cat (a := bh3 m.t j) (b := ([10] : List UInt8)) rfl rfl (Nat.le_trans (Vi hr5 hr6) (by decide)) (Nat.le_trans (Nat.le_refl _) (by decide)) rfl ?_
     refine wpo_assign (v := .string ⟨((bh3 m.t j) ++ ([10] : List UInt8)).toArray⟩) rfl rfl ?_
     refine wpo_nil ?_
     refine Xk ?_
     refine ⟨.string ⟨((bh3 m.t j) ++ ([10] : List UInt8)).toArray⟩, res1 rfl rfl, ?_, hb427⟩
     exact congrArg sv (by unfold thtx; rw [if_neg (of_decide_eq_false h449), Tz (by omega) (by omega)])
theorem P6 [Comp] (w : World) (ms : List MTh) (hT : ∀ i, i < ms.length → thingOk (mAt ms i).t = true) (h8 : ms.length ≤ 8) (a : Option Addr) (c : Nat) (ht : TabAt w a ms) (hlen : TabLen ms) (hn : ms.length ≤ 1048576) : CallsR Try.prog 62 #[.slice a ms.length c] w (fun v w' => v = .string ⟨(ttx (tabT ms) ms.length).toArray⟩ ∧ w.grownBy w' none) := by
 refine Xl (n := 24) Try.func62 rfl Try.ntmps62 rfl ?_
 have hb0 := World.grownBy.refl w none
 refine Xa ?_
 refine wpo_assign (v := .string ⟨([] : List UInt8).toArray⟩) rfl rfl ?_
 refine wpo_nil ?_
 refine Xa ?_
 refine wpo_assign (v := .string ⟨([] : List UInt8).toArray⟩) rfl rfl ?_
 refine wpo_nil ?_
 refine Xh ?_
 refine Xa ?_
 refine wpo_assign (v := .int .i64 0) rfl rfl ?_
 refine wpo_nil ?_
 refine Xu ?_
 refine Yf (fun mm f' w' => ∃ (k : Nat), mm = ms.length - k ∧ k ≤ ms.length ∧ f' 3 = .string ⟨(ttx (tabT ms) k).toArray⟩ ∧ f' 4 = .int .i64 (k : Int) ∧ f' 0 = .slice a ms.length c ∧ f' 2 = .string ⟨([] : List UInt8).toArray⟩ ∧ w.grownBy w' none) (ms.length - 0) ⟨0, rfl, (Nat.zero_le _), (congrArg sv (by first | rfl | exact Ej (by omega))), rfl, rfl, rfl, hb0⟩ ?_
 rintro mm f101 w102 ⟨k, hm104, hk, e105, e106, e107, e108, hb103⟩
 refine Xh ?_
 refine Xa ?_
 refine wpo_move (v := .int .i64 (k : Int)) e106 rfl ?_
 refine wpo_move (v := .slice a ms.length c) e107 rfl ?_
 refine wpo_len (by kernel_rfl) rfl rfl ?_
 refine wpo_lss (q := decide ((k : Int) < (ms.length : Int))) rfl rfl rfl rfl ?_
 refine wpo_nil ?_
 refine Xp rfl (fun h109 => ?_) (fun h109 => ?_)
 ·
  have h110 := of_decide_eq_true h109
  refine Xm ?_
  refine Xo ?_
  refine Xh ?_
  refine Xu ?_
  obtain ⟨b146, q147, o148, ha149, ho150, hr151⟩ := SlAt.at (TabAt.low ht hb103).1 (Yc (Xx (show k < ms.length by omega)))
  have hle152 := TabLen.at hlen (Xx (show k < ms.length by omega))
  refine Yx (m := 11) (vals := [(11, .string ⟨(ttx (tabT ms) k).toArray⟩), (12, .int .i64 (k : Int)), (13, .int .i64 ((k : Int) + 1)), (14, .string ⟨(dec ((k : Int) + 1)).toArray⟩), (15, .string ⟨((ttx (tabT ms) k) ++ (dec ((k : Int) + 1))).toArray⟩), (16, .string ⟨(((ttx (tabT ms) k) ++ (dec ((k : Int) + 1))) ++ ([32] : List UInt8)).toArray⟩), (17, .slice a ms.length c), (18, .int .i64 (k : Int)), (19, .pointer (some ⟨b146, o148, none⟩)), (20, .agg #[.int .i64 ((mAt ms k).t.kind), .int .i64 ((mAt ms k).t.lab.s), .int .i64 ((mAt ms k).t.lab.v), .int .i64 ((mAt ms k).t.ve), .int .i64 ((mAt ms k).t.num), .slice ((mAt ms k).sa) ((mAt ms k).t.slots.length) ((mAt ms k).sc), .slice ((mAt ms k).qa) ((mAt ms k).t.queue.length) ((mAt ms k).qc), .int .i64 ((mAt ms k).t.to)]), (21, .string ⟨(thtx (mAt ms k).t).toArray⟩)]) (fun w' => w102.grownBy w' none) Qd (by kernel_rfl) (X4 _) ?_ ?_
  ·
   refine Xd rfl (fun w162 hi163 => ?_) ?_
   ·
    have hb164 := low0 hb103 hi163
    refine wpo_move (v := .string ⟨(ttx (tabT ms) k).toArray⟩) e105 rfl ?_
    exact wpo_nil ⟨rfl, hi163⟩
   refine Xd rfl (fun w165 hi166 => ?_) ?_
   ·
    have hb167 := low0 hb103 hi166
    refine wpo_move (v := .int .i64 (k : Int)) e106 rfl ?_
    exact wpo_nil ⟨rfl, hi166⟩
   refine Xd rfl (fun w168 hi169 => ?_) ?_
   ·
    have hb170 := low0 hb103 hi169
    refine wpo_add (c := (k : Int) + 1) rfl rfl (by omega) (by omega) (by omega) rfl ?_
    exact wpo_nil ⟨rfl, hi169⟩
   refine Xd rfl (fun w171 hi172 => ?_) ?_
   ·
    have hb173 := low0 hb103 hi172
    refine Xi (vs := [.int .i64 ((k : Int) + 1)]) Kx (Xc rfl Xg) rfl (Wl ((k : Int) + 1) (by omega) _) ?_
    rintro _ w174 ⟨rfl, hg175⟩
    have hb176 := low0 hb173 hg175
    exact wpo_nil ⟨rfl, (Xj hi172 hg175)⟩
   refine Xd rfl (fun w177 hi178 => ?_) ?_
   ·
    have hb179 := low0 hb103 hi178
    refine wpo_cat (a := ttx (tabT ms) k) (b := dec ((k : Int) + 1)) rfl rfl (Nat.le_trans (N9 hT h8 hk) (by decide)) (Nat.le_trans (Yr ((k : Int) + 1)) (by decide)) rfl ?_
    exact wpo_nil ⟨rfl, hi178⟩
   refine Xd rfl (fun w180 hi181 => ?_) ?_
   ·
    have hb182 := low0 hb103 hi181
    refine wpo_cat (a := (ttx (tabT ms) k) ++ (dec ((k : Int) + 1))) (b := ([32] : List UInt8)) rfl rfl (Nat.le_trans (Ym (N9 hT h8 hk) (Yr ((k : Int) + 1))) (by decide)) (Nat.le_trans (Nat.le_refl _) (by decide)) rfl ?_
    exact wpo_nil ⟨rfl, hi181⟩
   refine Xd rfl (fun w183 hi184 => ?_) ?_
   ·
    have hb185 := low0 hb103 hi184
    refine wpo_move (v := .slice a ms.length c) e107 rfl ?_
    exact wpo_nil ⟨rfl, hi184⟩
   refine Xd rfl (fun w186 hi187 => ?_) ?_
   ·
    have hb188 := low0 hb103 hi187
    refine wpo_move (v := .int .i64 (k : Int)) e106 rfl ?_
    exact wpo_nil ⟨rfl, hi187⟩
   refine Xd rfl (fun w189 hi190 => ?_) ?_
   ·
    have hb191 := low0 hb103 hi190
    refine Xz Jf rfl rfl ha149 ho150 (by omega) (by omega) rfl ?_
    exact wpo_nil ⟨rfl, hi190⟩
   refine Xd rfl (fun w192 hi193 => ?_) ?_
   ·
    have hb194 := low0 hb103 hi193
    refine wpo_loadn (vs := [.int .i64 ((mAt ms k).t.kind), .int .i64 ((mAt ms k).t.lab.s), .int .i64 ((mAt ms k).t.lab.v), .int .i64 ((mAt ms k).t.ve), .int .i64 ((mAt ms k).t.num), .slice ((mAt ms k).sa) ((mAt ms k).t.slots.length) ((mAt ms k).sc), .slice ((mAt ms k).qa) ((mAt ms k).t.queue.length) ((mAt ms k).qc), .int .i64 ((mAt ms k).t.to)]) X5 rfl rfl (Yq (Yd hr151 hi193) 0 8 rfl) rfl ?_
    exact wpo_nil ⟨rfl, hi193⟩
   refine Xd rfl (fun w195 hi196 => ?_) ?_
   ·
    have hb197 := low0 hb103 hi196
    refine Xi (vs := [.agg #[.int .i64 ((mAt ms k).t.kind), .int .i64 ((mAt ms k).t.lab.s), .int .i64 ((mAt ms k).t.lab.v), .int .i64 ((mAt ms k).t.ve), .int .i64 ((mAt ms k).t.num), .slice ((mAt ms k).sa) ((mAt ms k).t.slots.length) ((mAt ms k).sc), .slice ((mAt ms k).qa) ((mAt ms k).t.queue.length) ((mAt ms k).qc), .int .i64 ((mAt ms k).t.to)]]) O8 (Xc rfl Xg) rfl (Zt (mAt ms k) _ (hT k (by omega)) (TabAt.th (TabAt.low ht hb197) (Xx (show k < ms.length by omega))).1 (TabAt.th (TabAt.low ht hb197) (Xx (show k < ms.length by omega))).2.1 (by first | omega | exact Nat.le_of_ble_eq_true rfl | (simp only [List.length_nil, List.length_cons, List.length_append, List.length_replicate]; omega)) (by first | omega | exact Nat.le_of_ble_eq_true rfl | (simp only [List.length_nil, List.length_cons, List.length_append, List.length_replicate]; omega))) ?_
    rintro _ w198 ⟨rfl, hg199⟩
    have hb200 := low0 hb197 hg199
    exact wpo_nil ⟨rfl, (Xj hi196 hg199)⟩
   exact Qc
  ·
   intro w201 hi202
   have hb203 := low0 hb103 hi202
   refine wpo_cat (a := (((ttx (tabT ms) k) ++ (dec ((k : Int) + 1))) ++ ([32] : List UInt8))) (b := thtx (mAt ms k).t) rfl rfl (Nat.le_trans (Ym (Ym (N9 hT h8 hk) (Yr ((k : Int) + 1))) (Nat.le_refl _)) (by decide)) (Nat.le_trans (R7 (hT k (by omega))) (by decide)) rfl ?_
   refine wpo_assign (v := .string ⟨((((ttx (tabT ms) k) ++ (dec ((k : Int) + 1))) ++ ([32] : List UInt8)) ++ (thtx (mAt ms k).t)).toArray⟩) rfl rfl ?_
   refine wpo_nil ?_
   refine Je ?_
   refine Xo ?_
   refine Xs ?_
   refine wpo_move (v := .int .i64 (k : Int)) e106 rfl ?_
   refine wpo_add (c := (k : Int) + 1) rfl rfl (by omega) (by omega) (by omega) rfl ?_
   refine wpo_assign (v := .int .i64 ((k : Int) + 1)) rfl rfl ?_
   refine wpo_nil ?_
   refine Xo ?_
   exact ⟨ms.length - (k + 1), by omega, (k + 1), rfl, (by omega), (congrArg sv (by first | rfl | exact Ej (by omega))), rfl, e107, e108, hb203⟩
 ·
  have h204 := of_decide_eq_false h109
  refine Yo ?_
  refine Yz ?_
  refine Yz ?_
  refine Jn ?_
  refine Xo ?_
  refine Xa ?_
  refine wpo_move (v := .string ⟨(ttx (tabT ms) k).toArray⟩) e105 rfl ?_
  refine wpo_assign (v := .string ⟨(ttx (tabT ms) k).toArray⟩) rfl rfl ?_
  refine wpo_nil ?_
  refine Xk ?_
  refine ⟨.string ⟨(ttx (tabT ms) k).toArray⟩, res1 rfl rfl, ?_, hb103⟩
  exact congrArg (fun z : List UInt8 => Value.string ⟨z.toArray⟩) ((congrArg (ttx (tabT ms)) (by omega)))
end Go.Dw.J
end
section
namespace Go.Dw.J
open Go.RowKit Go.Dw Go.Proofs
set_option linter.unusedSectionVars false
set_option maxRecDepth 100000
set_option maxHeartbeats 4000000
set_option linter.unusedSimpArgs false
set_option linter.unusedVariables false
theorem I8 : goFn Try.prog 44 = true := by kernel_rfl
theorem Oc : goFn Try.prog 62 = true := by kernel_rfl
theorem Rz [Comp] (l : Lab) (w : World) (ms ps : List MTh) (a b : Option Addr) (c e : Nat) (ht : TabAt w a ms) (hp : TabAt w b ps) (hlen : TabLen ms) (hlep : TabLen ps) (hn : ms.length ≤ 1048576) (hm : ps.length ≤ 1048576) : CallsR Try.prog 26 #[.slice a ms.length c, .slice b ps.length e, .agg #[.int .i64 l.s, .int .i64 l.v]] w (fun v w' => v = .bool (viewSame (tabT ms) (tabT ps) l) ∧ w.grownBy w' none) := by
 refine Xl (n := 28) Try.func26 rfl Try.ntmps26 rfl ?_
 have hb0 := World.grownBy.refl w none
 rcases X2 (tableOk (tabT ms)) with h101 | h101
 ·
  rcases X2 (tableOk (tabT ps)) with h102 | h102
  ·
   rcases X2 (labelOk l) with h103 | h103
   ·
    refine Xa ?_
    refine wpo_box (v := .agg #[.int .i64 l.s, .int .i64 l.v]) (cs := #[.int .i64 l.s, .int .i64 l.v]) rfl rfl rfl ?_
    intro B104 w105 hN106
    have hlB104 := Xv hN106 hb0
    have hb107 := low0 hb0 hN106.grw
    refine wpo_assign (v := .bool false) rfl rfl ?_
    refine wpo_nil ?_
    refine Xh ?_
    refine J7 (m := 17) [[], [0], [0, 1], [0, 1, 2], [0, 1, 2, 3], [0, 1, 2, 3, 4], [0, 1, 2, 3, 4, 5], [0, 1, 2, 3, 4, 5, 6], [0, 1, 2, 3, 4, 5, 6, 7], [0, 1, 2, 3, 4, 5, 6, 7, 8], [0, 1, 2, 3, 4, 5, 6, 7, 8, 9], [0, 1, 2, 3, 4, 5, 6, 7, 8, 9, 10], [0, 1, 2, 3, 4, 5, 6, 7, 8, 9, 10], [0, 1, 2, 3, 4, 5, 6, 7, 8, 9, 10, 11, 12], [0, 1, 2, 3, 4, 5, 6, 7, 8, 9, 10, 11, 12, 13], [0, 1, 2, 3, 4, 5, 6, 7, 8, 9, 10], [0, 1, 2, 3, 4, 5, 6, 7, 8, 9, 10], [0, 1, 2, 3, 4, 5, 6, 7, 8, 9, 10, 11, 12, 13, 14, 15, 16], [0, 1, 2, 3, 4, 5, 6, 7, 8, 9, 10, 11, 12, 13, 14, 15, 16, 17], [0, 1, 2, 3, 4, 5, 6, 7, 8, 9, 10, 11, 12, 13, 14, 15, 16, 17, 18], [0, 1, 2, 3, 4, 5, 6, 7, 8, 9, 10, 11, 12, 13, 14, 15, 16, 17, 18, 19], [0, 1, 2, 3, 4, 5, 6, 7, 8, 9, 10, 11, 12, 13, 14, 15, 16, 17, 18, 19, 20]] (fun S F w' => ∃ (us257 : List MTh) (a258 : Option Addr) (cap259 : Nat), w105.grownBy w' none ∧ F 0 = .slice a ms.length c ∧ F 1 = .slice b ps.length e ∧ F 5 = .pointer (some ⟨B104, 0, none⟩) ∧ F 6 = .bool false ∧ (S 13 = true → F 20 = .slice a258 us257.length cap259 ∧ tabT us257 = viewTab (tabT ms) l ∧ TabLen us257 ∧ us257.length ≤ ms.length ∧ (a258 = none → cap259 = 0) ∧ (∀ i, i < us257.length → thingOk (mAt us257 i).t = true) ∧ us257.length ≤ 8 ∧ TabAt w' (a258) us257) ∧ (S 14 = true → F 21 = .string ⟨(ttx (tabT us257) us257.length).toArray⟩) ∧ Vals S F [(0, 7, .slice a ms.length c), (1, 8, .bool (tableOk (tabT ms))), (2, 9, .bool (tableOk (tabT ms))), (3, 10, .slice b ps.length e), (4, 11, .bool (tableOk (tabT ps))), (5, 12, .bool (tableOk (tabT ps))), (6, 13, .bool (tableOk (tabT ps))), (7, 14, .agg #[.int .i64 l.s, .int .i64 l.v]), (8, 15, .bool (labelOk l)), (9, 16, .bool (labelOk l)), (10, 17, .bool (labelOk l)), (11, 18, .slice a ms.length c), (12, 19, .agg #[.int .i64 l.s, .int .i64 l.v]), (15, 22, .slice b ps.length e), (16, 23, .agg #[.int .i64 l.s, .int .i64 l.v])]) Qd (by kernel_rfl) ⟨[], none, 0, X4 _, rfl, rfl, rfl, rfl, Qw, Qw, Ug _⟩ ?_ ?_
    ·
     refine Xn (fun S F w275 hS hbef hcl hI => ?_) ?_
     ·
      obtain ⟨us257, a258, cap259, hi276, e277, e278, e279, e280, c_13, c_14, hvs⟩ := hI
      have hb281 := low0 hb107 hi276
      refine wpo_move (v := .slice a ms.length c) e277 rfl ?_
      exact wpo_nil ⟨us257, a258, cap259, hi276, e277, e278, e279, e280, fun h => Xq 13 hS hcl rfl h, fun h => Xq 14 hS hcl rfl h, Vals.up 0 hvs rfl rfl rfl⟩
     refine Xn (fun S F w282 hS hbef hcl hI => ?_) ?_
     ·
      obtain ⟨us257, a258, cap259, hi283, e284, e285, e286, e287, c_13, c_14, hvs⟩ := hI
      have hb288 := low0 hb107 hi283
      have ev289 := Vals.at 0 hvs rfl (Xf 0 hbef rfl)
      refine Xi (vs := [.slice a ms.length c]) Vz (Xc ev289 Xg) rfl (Qt  _ ms _ _ (TabAt.low ht hb288) hlen (by omega)) ?_
      rintro _ w290 ⟨rfl, hg291⟩
      have hb292 := low0 hb288 hg291
      exact wpo_nil ⟨us257, a258, cap259, (low0 hi283 hg291), e284, e285, e286, e287, fun h => Xq 13 hS hcl rfl h, fun h => Xq 14 hS hcl rfl h, Vals.up 1 hvs rfl rfl rfl⟩
     refine Xn (fun S F w293 hS hbef hcl hI => ?_) ?_
     ·
      obtain ⟨us257, a258, cap259, hi294, e295, e296, e297, e298, c_13, c_14, hvs⟩ := hI
      have hb299 := low0 hb107 hi294
      have ev300 := Vals.at 0 hvs rfl (Xf 0 hbef rfl)
      have ev301 := Vals.at 1 hvs rfl (Xf 1 hbef rfl)
      refine wpo_move (v := .bool (tableOk (tabT ms))) ev301 rfl ?_
      exact wpo_nil ⟨us257, a258, cap259, hi294, e295, e296, e297, e298, fun h => Xq 13 hS hcl rfl h, fun h => Xq 14 hS hcl rfl h, Vals.up 2 hvs rfl rfl rfl⟩
     refine Xn (fun S F w302 hS hbef hcl hI => ?_) ?_
     ·
      obtain ⟨us257, a258, cap259, hi303, e304, e305, e306, e307, c_13, c_14, hvs⟩ := hI
      have hb308 := low0 hb107 hi303
      have ev309 := Vals.at 0 hvs rfl (Xf 0 hbef rfl)
      have ev310 := Vals.at 1 hvs rfl (Xf 1 hbef rfl)
      have ev311 := Vals.at 2 hvs rfl (Xf 2 hbef rfl)
      refine Xb rfl rfl ev311 h101 ?_
      refine wpo_move (v := .slice b ps.length e) e305 rfl ?_
      exact wpo_nil ⟨us257, a258, cap259, hi303, e304, e305, e306, e307, fun h => Xq 13 hS hcl rfl h, fun h => Xq 14 hS hcl rfl h, Vals.up 3 hvs rfl rfl rfl⟩
     refine Xn (fun S F w312 hS hbef hcl hI => ?_) ?_
     ·
      obtain ⟨us257, a258, cap259, hi313, e314, e315, e316, e317, c_13, c_14, hvs⟩ := hI
      have hb318 := low0 hb107 hi313
      have ev319 := Vals.at 0 hvs rfl (Xf 0 hbef rfl)
      have ev320 := Vals.at 1 hvs rfl (Xf 1 hbef rfl)
      have ev321 := Vals.at 2 hvs rfl (Xf 2 hbef rfl)
      have ev322 := Vals.at 3 hvs rfl (Xf 3 hbef rfl)
      refine Xb rfl rfl ev321 h101 ?_
      refine Xi (vs := [.slice b ps.length e]) Vz (Xc ev322 Xg) rfl (Qt  _ ps _ _ (TabAt.low hp hb318) hlep (by omega)) ?_
      rintro _ w323 ⟨rfl, hg324⟩
      have hb325 := low0 hb318 hg324
      exact wpo_nil ⟨us257, a258, cap259, (low0 hi313 hg324), e314, e315, e316, e317, fun h => Xq 13 hS hcl rfl h, fun h => Xq 14 hS hcl rfl h, Vals.up 4 hvs rfl rfl rfl⟩
     refine Xn (fun S F w326 hS hbef hcl hI => ?_) ?_
     ·
      obtain ⟨us257, a258, cap259, hi327, e328, e329, e330, e331, c_13, c_14, hvs⟩ := hI
      have hb332 := low0 hb107 hi327
      have ev333 := Vals.at 0 hvs rfl (Xf 0 hbef rfl)
      have ev334 := Vals.at 1 hvs rfl (Xf 1 hbef rfl)
      have ev335 := Vals.at 2 hvs rfl (Xf 2 hbef rfl)
      have ev336 := Vals.at 3 hvs rfl (Xf 3 hbef rfl)
      have ev337 := Vals.at 4 hvs rfl (Xf 4 hbef rfl)
      refine wpo_pickt (v := .bool (tableOk (tabT ps))) ev335 h101 ev337 rfl ?_
      exact wpo_nil ⟨us257, a258, cap259, hi327, e328, e329, e330, e331, fun h => Xq 13 hS hcl rfl h, fun h => Xq 14 hS hcl rfl h, Vals.up 5 hvs rfl rfl rfl⟩
     refine Xn (fun S F w338 hS hbef hcl hI => ?_) ?_
     ·
      obtain ⟨us257, a258, cap259, hi339, e340, e341, e342, e343, c_13, c_14, hvs⟩ := hI
      have hb344 := low0 hb107 hi339
      have ev345 := Vals.at 0 hvs rfl (Xf 0 hbef rfl)
      have ev346 := Vals.at 1 hvs rfl (Xf 1 hbef rfl)
      have ev347 := Vals.at 2 hvs rfl (Xf 2 hbef rfl)
      have ev348 := Vals.at 3 hvs rfl (Xf 3 hbef rfl)
      have ev349 := Vals.at 4 hvs rfl (Xf 4 hbef rfl)
      have ev350 := Vals.at 5 hvs rfl (Xf 5 hbef rfl)
      refine wpo_move (v := .bool (tableOk (tabT ps))) ev350 rfl ?_
      exact wpo_nil ⟨us257, a258, cap259, hi339, e340, e341, e342, e343, fun h => Xq 13 hS hcl rfl h, fun h => Xq 14 hS hcl rfl h, Vals.up 6 hvs rfl rfl rfl⟩
     refine Xn (fun S F w351 hS hbef hcl hI => ?_) ?_
     ·
      obtain ⟨us257, a258, cap259, hi352, e353, e354, e355, e356, c_13, c_14, hvs⟩ := hI
      have hb357 := low0 hb107 hi352
      have ev358 := Vals.at 0 hvs rfl (Xf 0 hbef rfl)
      have ev359 := Vals.at 1 hvs rfl (Xf 1 hbef rfl)
      have ev360 := Vals.at 2 hvs rfl (Xf 2 hbef rfl)
      have ev361 := Vals.at 3 hvs rfl (Xf 3 hbef rfl)
      have ev362 := Vals.at 4 hvs rfl (Xf 4 hbef rfl)
      have ev363 := Vals.at 5 hvs rfl (Xf 5 hbef rfl)
      have ev364 := Vals.at 6 hvs rfl (Xf 6 hbef rfl)
      refine Xb rfl rfl ev364 h102 ?_
      have k365 := (hN106.blk.grown0 hi352)
      refine wpo_loadn (vs := [.int .i64 l.s, .int .i64 l.v]) Qg e355 rfl (k365.rangeL 0 2 rfl) rfl ?_
      exact wpo_nil ⟨us257, a258, cap259, hi352, e353, e354, e355, e356, fun h => Xq 13 hS hcl rfl h, fun h => Xq 14 hS hcl rfl h, Vals.up 7 hvs rfl rfl rfl⟩
     refine Xn (fun S F w366 hS hbef hcl hI => ?_) ?_
     ·
      obtain ⟨us257, a258, cap259, hi367, e368, e369, e370, e371, c_13, c_14, hvs⟩ := hI
      have hb372 := low0 hb107 hi367
      have ev373 := Vals.at 0 hvs rfl (Xf 0 hbef rfl)
      have ev374 := Vals.at 1 hvs rfl (Xf 1 hbef rfl)
      have ev375 := Vals.at 2 hvs rfl (Xf 2 hbef rfl)
      have ev376 := Vals.at 3 hvs rfl (Xf 3 hbef rfl)
      have ev377 := Vals.at 4 hvs rfl (Xf 4 hbef rfl)
      have ev378 := Vals.at 5 hvs rfl (Xf 5 hbef rfl)
      have ev379 := Vals.at 6 hvs rfl (Xf 6 hbef rfl)
      have ev380 := Vals.at 7 hvs rfl (Xf 7 hbef rfl)
      refine Xb rfl rfl ev379 h102 ?_
      refine Xi (vs := [.agg #[.int .i64 l.s, .int .i64 l.v]]) T5 (Xc ev380 Xg) rfl (Vr l _) ?_
      rintro _ w381 ⟨rfl, hg382⟩
      have hb383 := low0 hb372 hg382
      exact wpo_nil ⟨us257, a258, cap259, (low0 hi367 hg382), e368, e369, e370, e371, fun h => Xq 13 hS hcl rfl h, fun h => Xq 14 hS hcl rfl h, Vals.up 8 hvs rfl rfl rfl⟩
     refine Xn (fun S F w384 hS hbef hcl hI => ?_) ?_
     ·
      obtain ⟨us257, a258, cap259, hi385, e386, e387, e388, e389, c_13, c_14, hvs⟩ := hI
      have hb390 := low0 hb107 hi385
      have ev391 := Vals.at 0 hvs rfl (Xf 0 hbef rfl)
      have ev392 := Vals.at 1 hvs rfl (Xf 1 hbef rfl)
      have ev393 := Vals.at 2 hvs rfl (Xf 2 hbef rfl)
      have ev394 := Vals.at 3 hvs rfl (Xf 3 hbef rfl)
      have ev395 := Vals.at 4 hvs rfl (Xf 4 hbef rfl)
      have ev396 := Vals.at 5 hvs rfl (Xf 5 hbef rfl)
      have ev397 := Vals.at 6 hvs rfl (Xf 6 hbef rfl)
      have ev398 := Vals.at 7 hvs rfl (Xf 7 hbef rfl)
      have ev399 := Vals.at 8 hvs rfl (Xf 8 hbef rfl)
      refine wpo_pickt (v := .bool (labelOk l)) ev397 h102 ev399 rfl ?_
      exact wpo_nil ⟨us257, a258, cap259, hi385, e386, e387, e388, e389, fun h => Xq 13 hS hcl rfl h, fun h => Xq 14 hS hcl rfl h, Vals.up 9 hvs rfl rfl rfl⟩
     refine Xn (fun S F w400 hS hbef hcl hI => ?_) ?_
     ·
      obtain ⟨us257, a258, cap259, hi401, e402, e403, e404, e405, c_13, c_14, hvs⟩ := hI
      have hb406 := low0 hb107 hi401
      have ev407 := Vals.at 0 hvs rfl (Xf 0 hbef rfl)
      have ev408 := Vals.at 1 hvs rfl (Xf 1 hbef rfl)
      have ev409 := Vals.at 2 hvs rfl (Xf 2 hbef rfl)
      have ev410 := Vals.at 3 hvs rfl (Xf 3 hbef rfl)
      have ev411 := Vals.at 4 hvs rfl (Xf 4 hbef rfl)
      have ev412 := Vals.at 5 hvs rfl (Xf 5 hbef rfl)
      have ev413 := Vals.at 6 hvs rfl (Xf 6 hbef rfl)
      have ev414 := Vals.at 7 hvs rfl (Xf 7 hbef rfl)
      have ev415 := Vals.at 8 hvs rfl (Xf 8 hbef rfl)
      have ev416 := Vals.at 9 hvs rfl (Xf 9 hbef rfl)
      refine wpo_move (v := .bool (labelOk l)) ev416 rfl ?_
      exact wpo_nil ⟨us257, a258, cap259, hi401, e402, e403, e404, e405, fun h => Xq 13 hS hcl rfl h, fun h => Xq 14 hS hcl rfl h, Vals.up 10 hvs rfl rfl rfl⟩
     refine Xn (fun S F w417 hS hbef hcl hI => ?_) ?_
     ·
      obtain ⟨us257, a258, cap259, hi418, e419, e420, e421, e422, c_13, c_14, hvs⟩ := hI
      have hb423 := low0 hb107 hi418
      have ev424 := Vals.at 0 hvs rfl (Xf 0 hbef rfl)
      have ev425 := Vals.at 1 hvs rfl (Xf 1 hbef rfl)
      have ev426 := Vals.at 2 hvs rfl (Xf 2 hbef rfl)
      have ev427 := Vals.at 3 hvs rfl (Xf 3 hbef rfl)
      have ev428 := Vals.at 4 hvs rfl (Xf 4 hbef rfl)
      have ev429 := Vals.at 5 hvs rfl (Xf 5 hbef rfl)
      have ev430 := Vals.at 6 hvs rfl (Xf 6 hbef rfl)
      have ev431 := Vals.at 7 hvs rfl (Xf 7 hbef rfl)
      have ev432 := Vals.at 8 hvs rfl (Xf 8 hbef rfl)
      have ev433 := Vals.at 9 hvs rfl (Xf 9 hbef rfl)
      have ev434 := Vals.at 10 hvs rfl (Xf 10 hbef rfl)
      refine Xb rfl rfl ev434 h103 ?_
      refine wpo_move (v := .slice a ms.length c) e419 rfl ?_
      exact wpo_nil ⟨us257, a258, cap259, hi418, e419, e420, e421, e422, fun h => Xq 13 hS hcl rfl h, fun h => Xq 14 hS hcl rfl h, Vals.up 11 hvs rfl rfl rfl⟩
     refine Xn (fun S F w435 hS hbef hcl hI => ?_) ?_
     ·
      obtain ⟨us257, a258, cap259, hi436, e437, e438, e439, e440, c_13, c_14, hvs⟩ := hI
      have hb441 := low0 hb107 hi436
      have ev442 := Vals.at 0 hvs rfl (Xf 0 hbef rfl)
      have ev443 := Vals.at 1 hvs rfl (Xf 1 hbef rfl)
      have ev444 := Vals.at 2 hvs rfl (Xf 2 hbef rfl)
      have ev445 := Vals.at 3 hvs rfl (Xf 3 hbef rfl)
      have ev446 := Vals.at 4 hvs rfl (Xf 4 hbef rfl)
      have ev447 := Vals.at 5 hvs rfl (Xf 5 hbef rfl)
      have ev448 := Vals.at 6 hvs rfl (Xf 6 hbef rfl)
      have ev449 := Vals.at 7 hvs rfl (Xf 7 hbef rfl)
      have ev450 := Vals.at 8 hvs rfl (Xf 8 hbef rfl)
      have ev451 := Vals.at 9 hvs rfl (Xf 9 hbef rfl)
      have ev452 := Vals.at 10 hvs rfl (Xf 10 hbef rfl)
      refine Xb rfl rfl ev452 h103 ?_
      have k453 := (hN106.blk.grown0 hi436)
      refine wpo_loadn (vs := [.int .i64 l.s, .int .i64 l.v]) Qg e439 rfl (k453.rangeL 0 2 rfl) rfl ?_
      exact wpo_nil ⟨us257, a258, cap259, hi436, e437, e438, e439, e440, fun h => Xq 13 hS hcl rfl h, fun h => Xq 14 hS hcl rfl h, Vals.up 12 hvs rfl rfl rfl⟩
     refine Xn (fun S F w454 hS hbef hcl hI => ?_) ?_
     ·
      obtain ⟨us257, a258, cap259, hi455, e456, e457, e458, e459, c_13, c_14, hvs⟩ := hI
      have hb460 := low0 hb107 hi455
      have ev461 := Vals.at 0 hvs rfl (Xf 0 hbef rfl)
      have ev462 := Vals.at 1 hvs rfl (Xf 1 hbef rfl)
      have ev463 := Vals.at 2 hvs rfl (Xf 2 hbef rfl)
      have ev464 := Vals.at 3 hvs rfl (Xf 3 hbef rfl)
      have ev465 := Vals.at 4 hvs rfl (Xf 4 hbef rfl)
      have ev466 := Vals.at 5 hvs rfl (Xf 5 hbef rfl)
      have ev467 := Vals.at 6 hvs rfl (Xf 6 hbef rfl)
      have ev468 := Vals.at 7 hvs rfl (Xf 7 hbef rfl)
      have ev469 := Vals.at 8 hvs rfl (Xf 8 hbef rfl)
      have ev470 := Vals.at 9 hvs rfl (Xf 9 hbef rfl)
      have ev471 := Vals.at 10 hvs rfl (Xf 10 hbef rfl)
      have ev472 := Vals.at 11 hvs rfl (Xf 11 hbef rfl)
      have ev473 := Vals.at 12 hvs rfl (Xf 12 hbef rfl)
      refine Xb rfl rfl ev471 h103 ?_
      refine Xi (vs := [.slice a ms.length c, .agg #[.int .i64 l.s, .int .i64 l.v]]) I8 (Xc ev472 (Xc ev473 Xg)) rfl (T8 l _ ms _ _ (TabAt.low ht hb460) hlen (by omega) h101 h103) ?_
      rintro _ w482 ⟨us474, a475, cap476, rfl, he477, hT479, hnc480, hg481⟩
      have hb487 := low0 hb460 hg481
      have he478 := he477.trans (Vw h101 h103).symm
      have hTl483 := Kq he478 hlen
      have hll484 := Vv he478
      have hok485 : ∀ i, i < us474.length → thingOk (mAt us474 i).t = true := fun i hi => Wf he478 h101 h103 (by have hq := Jm he478 h101 h103; omega)
      have h8486 : us474.length ≤ 8 := by have hq := Hf h101; omega
      exact wpo_nil ⟨us474, a475, cap476, (low0 hi455 hg481), e456, e457, e458, e459, fun _ => ⟨rfl, he478, hTl483, hll484, hnc480, hok485, h8486, hT479⟩, fun h => Xq 14 hS hcl rfl h, Vals.keep hvs rfl⟩
     refine Xn (fun S F w488 hS hbef hcl hI => ?_) ?_
     ·
      obtain ⟨us257, a258, cap259, hi489, e490, e491, e492, e493, c_13, c_14, hvs⟩ := hI
      have hb494 := low0 hb107 hi489
      have ev495 := Vals.at 0 hvs rfl (Xf 0 hbef rfl)
      have ev496 := Vals.at 1 hvs rfl (Xf 1 hbef rfl)
      have ev497 := Vals.at 2 hvs rfl (Xf 2 hbef rfl)
      have ev498 := Vals.at 3 hvs rfl (Xf 3 hbef rfl)
      have ev499 := Vals.at 4 hvs rfl (Xf 4 hbef rfl)
      have ev500 := Vals.at 5 hvs rfl (Xf 5 hbef rfl)
      have ev501 := Vals.at 6 hvs rfl (Xf 6 hbef rfl)
      have ev502 := Vals.at 7 hvs rfl (Xf 7 hbef rfl)
      have ev503 := Vals.at 8 hvs rfl (Xf 8 hbef rfl)
      have ev504 := Vals.at 9 hvs rfl (Xf 9 hbef rfl)
      have ev505 := Vals.at 10 hvs rfl (Xf 10 hbef rfl)
      have ev506 := Vals.at 11 hvs rfl (Xf 11 hbef rfl)
      have ev507 := Vals.at 12 hvs rfl (Xf 12 hbef rfl)
      obtain ⟨e508, he261, hTl266, hll267, hnc263, hok268, h8269, hT262⟩ := c_13 (Xf 13 hbef rfl)
      refine Xb rfl rfl ev505 h103 ?_
      refine Xi (vs := [.slice a258 us257.length cap259]) Oc (Xc e508 Xg) rfl (P6 _ us257 hok268 h8269 _ _ hT262 hTl266 (by omega)) ?_
      rintro _ w509 ⟨rfl, hg510⟩
      have hb511 := low0 hb494 hg510
      exact wpo_nil ⟨us257, a258, cap259, (low0 hi489 hg510), e490, e491, e492, e493, fun h => let ⟨y512, y513, y514, y515, y516, y517, y518, y519⟩ := c_13 h; ⟨y512, y513, y514, y515, y516, y517, y518, (y519).low hg510⟩, fun _ => rfl, Vals.keep hvs rfl⟩
     refine Xn (fun S F w520 hS hbef hcl hI => ?_) ?_
     ·
      obtain ⟨us257, a258, cap259, hi521, e522, e523, e524, e525, c_13, c_14, hvs⟩ := hI
      have hb526 := low0 hb107 hi521
      have ev527 := Vals.at 0 hvs rfl (Xf 0 hbef rfl)
      have ev528 := Vals.at 1 hvs rfl (Xf 1 hbef rfl)
      have ev529 := Vals.at 2 hvs rfl (Xf 2 hbef rfl)
      have ev530 := Vals.at 3 hvs rfl (Xf 3 hbef rfl)
      have ev531 := Vals.at 4 hvs rfl (Xf 4 hbef rfl)
      have ev532 := Vals.at 5 hvs rfl (Xf 5 hbef rfl)
      have ev533 := Vals.at 6 hvs rfl (Xf 6 hbef rfl)
      have ev534 := Vals.at 7 hvs rfl (Xf 7 hbef rfl)
      have ev535 := Vals.at 8 hvs rfl (Xf 8 hbef rfl)
      have ev536 := Vals.at 9 hvs rfl (Xf 9 hbef rfl)
      have ev537 := Vals.at 10 hvs rfl (Xf 10 hbef rfl)
      refine Xb rfl rfl ev537 h103 ?_
      refine wpo_move (v := .slice b ps.length e) e523 rfl ?_
      exact wpo_nil ⟨us257, a258, cap259, hi521, e522, e523, e524, e525, c_13, c_14, Vals.up 13 hvs rfl rfl rfl⟩
     refine Xn (fun S F w538 hS hbef hcl hI => ?_) ?_
     ·
      obtain ⟨us257, a258, cap259, hi539, e540, e541, e542, e543, c_13, c_14, hvs⟩ := hI
      have hb544 := low0 hb107 hi539
      have ev545 := Vals.at 0 hvs rfl (Xf 0 hbef rfl)
      have ev546 := Vals.at 1 hvs rfl (Xf 1 hbef rfl)
      have ev547 := Vals.at 2 hvs rfl (Xf 2 hbef rfl)
      have ev548 := Vals.at 3 hvs rfl (Xf 3 hbef rfl)
      have ev549 := Vals.at 4 hvs rfl (Xf 4 hbef rfl)
      have ev550 := Vals.at 5 hvs rfl (Xf 5 hbef rfl)
      have ev551 := Vals.at 6 hvs rfl (Xf 6 hbef rfl)
      have ev552 := Vals.at 7 hvs rfl (Xf 7 hbef rfl)
      have ev553 := Vals.at 8 hvs rfl (Xf 8 hbef rfl)
      have ev554 := Vals.at 9 hvs rfl (Xf 9 hbef rfl)
      have ev555 := Vals.at 10 hvs rfl (Xf 10 hbef rfl)
      refine Xb rfl rfl ev555 h103 ?_
      have k556 := (hN106.blk.grown0 hi539)
      refine wpo_loadn (vs := [.int .i64 l.s, .int .i64 l.v]) Qg e542 rfl (k556.rangeL 0 2 rfl) rfl ?_
      exact wpo_nil ⟨us257, a258, cap259, hi539, e540, e541, e542, e543, c_13, c_14, Vals.up 14 hvs rfl rfl rfl⟩
     exact Kh
    ·
     intro S F w557 hall hI
     obtain ⟨us257, a258, cap259, hi558, e559, e560, e561, e562, c_13, c_14, hvs⟩ := hI
     have hb563 := low0 hb107 hi558
     have ev564 := Vals.at 0 hvs rfl (hall 0 (by decide))
     have ev565 := Vals.at 1 hvs rfl (hall 1 (by decide))
     have ev566 := Vals.at 2 hvs rfl (hall 2 (by decide))
     have ev567 := Vals.at 3 hvs rfl (hall 3 (by decide))
     have ev568 := Vals.at 4 hvs rfl (hall 4 (by decide))
     have ev569 := Vals.at 5 hvs rfl (hall 5 (by decide))
     have ev570 := Vals.at 6 hvs rfl (hall 6 (by decide))
     have ev571 := Vals.at 7 hvs rfl (hall 7 (by decide))
     have ev572 := Vals.at 8 hvs rfl (hall 8 (by decide))
     have ev573 := Vals.at 9 hvs rfl (hall 9 (by decide))
     have ev574 := Vals.at 10 hvs rfl (hall 10 (by decide))
     have ev575 := Vals.at 11 hvs rfl (hall 11 (by decide))
     have ev576 := Vals.at 12 hvs rfl (hall 12 (by decide))
     obtain ⟨e577, he261, hTl266, hll267, hnc263, hok268, h8269, hT262⟩ := c_13 (hall 13 (by decide))
     obtain e578 := c_14 (hall 14 (by decide))
     have ev579 := Vals.at 13 hvs rfl (hall 15 (by decide))
     have ev580 := Vals.at 14 hvs rfl (hall 16 (by decide))
     refine Xb rfl rfl ev574 h103 ?_
     refine Xi (vs := [.slice b ps.length e, .agg #[.int .i64 l.s, .int .i64 l.v]]) I8 (Xc ev579 (Xc ev580 Xg)) rfl (T8 l _ ps _ _ (TabAt.low hp hb563) hlep (by omega) h102 h103) ?_
     rintro _ w589 ⟨us581, a582, cap583, rfl, he584, hT586, hnc587, hg588⟩
     have hb594 := low0 hb563 hg588
     have he585 := he584.trans (Vw h102 h103).symm
     have hTl590 := Kq he585 hlep
     have hll591 := Vv he585
     have hok592 : ∀ i, i < us581.length → thingOk (mAt us581 i).t = true := fun i hi => Wf he585 h102 h103 (by have hq := Jm he585 h102 h103; omega)
     have h8593 : us581.length ≤ 8 := by have hq := Hf h102; omega
     refine Xb rfl rfl ev574 h103 ?_
     refine Xi (vs := [.slice a582 us581.length cap583]) Oc (Xc rfl Xg) rfl (P6 _ us581 hok592 h8593 _ _ hT586 hTl590 (by omega)) ?_
     rintro _ w595 ⟨rfl, hg596⟩
     have hb597 := low0 hb594 hg596
     refine Xb rfl rfl ev574 h103 ?_
     refine wpo_seql (q := decide ((ttx (tabT us257) us257.length) = (ttx (tabT us581) us581.length))) e578 rfl rfl rfl ?_
     refine wpo_pickt (v := .bool (decide ((ttx (tabT us257) us257.length) = (ttx (tabT us581) us581.length)))) ev574 h103 rfl rfl ?_
     refine wpo_assign (v := .bool (decide ((ttx (tabT us257) us257.length) = (ttx (tabT us581) us581.length)))) rfl rfl ?_
     refine wpo_nil ?_
     refine Xo ?_
     refine Xk ?_
     refine ⟨.bool (decide ((ttx (tabT us257) us257.length) = (ttx (tabT us581) us581.length))), res1 rfl rfl, ?_, hb597⟩
     exact congrArg Value.bool (Pc he261 he585 h101 h102 h103)
   ·
    refine Xa ?_
    refine wpo_box (v := .agg #[.int .i64 l.s, .int .i64 l.v]) (cs := #[.int .i64 l.s, .int .i64 l.v]) rfl rfl rfl ?_
    intro B598 w599 hN600
    have hlB598 := Xv hN600 hb0
    have hb601 := low0 hb0 hN600.grw
    refine wpo_assign (v := .bool false) rfl rfl ?_
    refine wpo_nil ?_
    refine Xh ?_
    refine Yx (m := 17) (vals := [(7, .slice a ms.length c), (8, .bool (tableOk (tabT ms))), (9, .bool (tableOk (tabT ms))), (10, .slice b ps.length e), (11, .bool (tableOk (tabT ps))), (12, .bool (tableOk (tabT ps))), (13, .bool (tableOk (tabT ps))), (14, .agg #[.int .i64 l.s, .int .i64 l.v]), (15, .bool (labelOk l)), (16, .bool (labelOk l)), (17, .bool (labelOk l)), (18, undef), (19, undef), (20, undef), (21, undef), (22, undef), (23, undef)]) (fun w' => w599.grownBy w' none) Qd (by kernel_rfl) (X4 _) ?_ ?_
    ·
     refine Xd rfl (fun w642 hi643 => ?_) ?_
     ·
      have hb644 := low0 hb601 hi643
      refine wpo_move (v := .slice a ms.length c) rfl rfl ?_
      exact wpo_nil ⟨rfl, hi643⟩
     refine Xd rfl (fun w645 hi646 => ?_) ?_
     ·
      have hb647 := low0 hb601 hi646
      refine Xi (vs := [.slice a ms.length c]) Vz (Xc rfl Xg) rfl (Qt  _ ms _ _ (TabAt.low ht hb647) hlen (by omega)) ?_
      rintro _ w648 ⟨rfl, hg649⟩
      have hb650 := low0 hb647 hg649
      exact wpo_nil ⟨rfl, (Xj hi646 hg649)⟩
     refine Xd rfl (fun w651 hi652 => ?_) ?_
     ·
      have hb653 := low0 hb601 hi652
      refine wpo_move (v := .bool (tableOk (tabT ms))) rfl rfl ?_
      exact wpo_nil ⟨rfl, hi652⟩
     refine Xd rfl (fun w654 hi655 => ?_) ?_
     ·
      have hb656 := low0 hb601 hi655
      refine Xb rfl rfl rfl h101 ?_
      refine wpo_move (v := .slice b ps.length e) rfl rfl ?_
      exact wpo_nil ⟨rfl, hi655⟩
     refine Xd rfl (fun w657 hi658 => ?_) ?_
     ·
      have hb659 := low0 hb601 hi658
      refine Xb rfl rfl rfl h101 ?_
      refine Xi (vs := [.slice b ps.length e]) Vz (Xc rfl Xg) rfl (Qt  _ ps _ _ (TabAt.low hp hb659) hlep (by omega)) ?_
      rintro _ w660 ⟨rfl, hg661⟩
      have hb662 := low0 hb659 hg661
      exact wpo_nil ⟨rfl, (Xj hi658 hg661)⟩
     refine Xd rfl (fun w663 hi664 => ?_) ?_
     ·
      have hb665 := low0 hb601 hi664
      refine wpo_pickt (v := .bool (tableOk (tabT ps))) rfl h101 rfl rfl ?_
      exact wpo_nil ⟨rfl, hi664⟩
     refine Xd rfl (fun w666 hi667 => ?_) ?_
     ·
      have hb668 := low0 hb601 hi667
      refine wpo_move (v := .bool (tableOk (tabT ps))) rfl rfl ?_
      exact wpo_nil ⟨rfl, hi667⟩
     refine Xd rfl (fun w669 hi670 => ?_) ?_
     ·
      have hb671 := low0 hb601 hi670
      refine Xb rfl rfl rfl h102 ?_
      have k672 := (hN600.blk.grown0 hi670)
      refine wpo_loadn (vs := [.int .i64 l.s, .int .i64 l.v]) Qg rfl rfl (k672.rangeL 0 2 rfl) rfl ?_
      exact wpo_nil ⟨rfl, hi670⟩
     refine Xd rfl (fun w673 hi674 => ?_) ?_
     ·
      have hb675 := low0 hb601 hi674
      refine Xb rfl rfl rfl h102 ?_
      refine Xi (vs := [.agg #[.int .i64 l.s, .int .i64 l.v]]) T5 (Xc rfl Xg) rfl (Vr l _) ?_
      rintro _ w676 ⟨rfl, hg677⟩
      have hb678 := low0 hb675 hg677
      exact wpo_nil ⟨rfl, (Xj hi674 hg677)⟩
     refine Xd rfl (fun w679 hi680 => ?_) ?_
     ·
      have hb681 := low0 hb601 hi680
      refine wpo_pickt (v := .bool (labelOk l)) rfl h102 rfl rfl ?_
      exact wpo_nil ⟨rfl, hi680⟩
     refine Xd rfl (fun w682 hi683 => ?_) ?_
     ·
      have hb684 := low0 hb601 hi683
      refine wpo_move (v := .bool (labelOk l)) rfl rfl ?_
      exact wpo_nil ⟨rfl, hi683⟩
     refine Xd rfl (fun w685 hi686 => ?_) ?_
     ·
      have hb687 := low0 hb601 hi686
      refine Xe rfl rfl rfl h103 rfl ?_
      exact wpo_nil ⟨rfl, hi686⟩
     refine Xd rfl (fun w688 hi689 => ?_) ?_
     ·
      have hb690 := low0 hb601 hi689
      refine Xe rfl rfl rfl h103 rfl ?_
      exact wpo_nil ⟨rfl, hi689⟩
     refine Xd rfl (fun w691 hi692 => ?_) ?_
     ·
      have hb693 := low0 hb601 hi692
      refine Xe rfl rfl rfl h103 rfl ?_
      exact wpo_nil ⟨rfl, hi692⟩
     refine Xd rfl (fun w694 hi695 => ?_) ?_
     ·
      have hb696 := low0 hb601 hi695
      refine Xe rfl rfl rfl h103 rfl ?_
      exact wpo_nil ⟨rfl, hi695⟩
     refine Xd rfl (fun w697 hi698 => ?_) ?_
     ·
      have hb699 := low0 hb601 hi698
      refine Xe rfl rfl rfl h103 rfl ?_
      exact wpo_nil ⟨rfl, hi698⟩
     refine Xd rfl (fun w700 hi701 => ?_) ?_
     ·
      have hb702 := low0 hb601 hi701
      refine Xe rfl rfl rfl h103 rfl ?_
      exact wpo_nil ⟨rfl, hi701⟩
     exact Qc
    ·
     intro w703 hi704
     have hb705 := low0 hb601 hi704
     iterate 3 refine Xe rfl rfl rfl h103 rfl ?_
     refine wpo_pickf (v := .bool false) rfl h103 rfl rfl ?_
     refine wpo_assign (v := .bool false) rfl rfl ?_
     refine wpo_nil ?_
     refine Xo ?_
     refine Xk ?_
     refine ⟨.bool false, res1 rfl rfl, ?_, hb705⟩
     exact congrArg Value.bool (R9 h103).symm
  ·
   rcases X2 (labelOk l) with h706 | h706
   ·
    refine Xa ?_
    refine wpo_box (v := .agg #[.int .i64 l.s, .int .i64 l.v]) (cs := #[.int .i64 l.s, .int .i64 l.v]) rfl rfl rfl ?_
    intro B707 w708 hN709
    have hlB707 := Xv hN709 hb0
    have hb710 := low0 hb0 hN709.grw
    refine wpo_assign (v := .bool false) rfl rfl ?_
    refine wpo_nil ?_
    refine Xh ?_
    refine Yx (m := 17) (vals := [(7, .slice a ms.length c), (8, .bool (tableOk (tabT ms))), (9, .bool (tableOk (tabT ms))), (10, .slice b ps.length e), (11, .bool (tableOk (tabT ps))), (12, .bool (tableOk (tabT ps))), (13, .bool (tableOk (tabT ps))), (14, undef), (15, undef), (16, .bool false), (17, .bool false), (18, undef), (19, undef), (20, undef), (21, undef), (22, undef), (23, undef)]) (fun w' => w708.grownBy w' none) Qd (by kernel_rfl) (X4 _) ?_ ?_
    ·
     refine Xd rfl (fun w735 hi736 => ?_) ?_
     ·
      have hb737 := low0 hb710 hi736
      refine wpo_move (v := .slice a ms.length c) rfl rfl ?_
      exact wpo_nil ⟨rfl, hi736⟩
     refine Xd rfl (fun w738 hi739 => ?_) ?_
     ·
      have hb740 := low0 hb710 hi739
      refine Xi (vs := [.slice a ms.length c]) Vz (Xc rfl Xg) rfl (Qt  _ ms _ _ (TabAt.low ht hb740) hlen (by omega)) ?_
      rintro _ w741 ⟨rfl, hg742⟩
      have hb743 := low0 hb740 hg742
      exact wpo_nil ⟨rfl, (Xj hi739 hg742)⟩
     refine Xd rfl (fun w744 hi745 => ?_) ?_
     ·
      have hb746 := low0 hb710 hi745
      refine wpo_move (v := .bool (tableOk (tabT ms))) rfl rfl ?_
      exact wpo_nil ⟨rfl, hi745⟩
     refine Xd rfl (fun w747 hi748 => ?_) ?_
     ·
      have hb749 := low0 hb710 hi748
      refine Xb rfl rfl rfl h101 ?_
      refine wpo_move (v := .slice b ps.length e) rfl rfl ?_
      exact wpo_nil ⟨rfl, hi748⟩
     refine Xd rfl (fun w750 hi751 => ?_) ?_
     ·
      have hb752 := low0 hb710 hi751
      refine Xb rfl rfl rfl h101 ?_
      refine Xi (vs := [.slice b ps.length e]) Vz (Xc rfl Xg) rfl (Qt  _ ps _ _ (TabAt.low hp hb752) hlep (by omega)) ?_
      rintro _ w753 ⟨rfl, hg754⟩
      have hb755 := low0 hb752 hg754
      exact wpo_nil ⟨rfl, (Xj hi751 hg754)⟩
     refine Xd rfl (fun w756 hi757 => ?_) ?_
     ·
      have hb758 := low0 hb710 hi757
      refine wpo_pickt (v := .bool (tableOk (tabT ps))) rfl h101 rfl rfl ?_
      exact wpo_nil ⟨rfl, hi757⟩
     refine Xd rfl (fun w759 hi760 => ?_) ?_
     ·
      have hb761 := low0 hb710 hi760
      refine wpo_move (v := .bool (tableOk (tabT ps))) rfl rfl ?_
      exact wpo_nil ⟨rfl, hi760⟩
     refine Xd rfl (fun w762 hi763 => ?_) ?_
     ·
      have hb764 := low0 hb710 hi763
      refine Xe rfl rfl rfl h102 rfl ?_
      exact wpo_nil ⟨rfl, hi763⟩
     refine Xd rfl (fun w765 hi766 => ?_) ?_
     ·
      have hb767 := low0 hb710 hi766
      refine Xe rfl rfl rfl h102 rfl ?_
      exact wpo_nil ⟨rfl, hi766⟩
     refine Xd rfl (fun w768 hi769 => ?_) ?_
     ·
      have hb770 := low0 hb710 hi769
      refine wpo_pickf (v := .bool false) rfl h102 rfl rfl ?_
      exact wpo_nil ⟨rfl, hi769⟩
     refine Xd rfl (fun w771 hi772 => ?_) ?_
     ·
      have hb773 := low0 hb710 hi772
      refine wpo_move (v := .bool false) rfl rfl ?_
      exact wpo_nil ⟨rfl, hi772⟩
     refine Xd rfl (fun w774 hi775 => ?_) ?_
     ·
      have hb776 := low0 hb710 hi775
      refine Xe rfl rfl rfl rfl rfl ?_
      exact wpo_nil ⟨rfl, hi775⟩
     refine Xd rfl (fun w777 hi778 => ?_) ?_
     ·
      have hb779 := low0 hb710 hi778
      refine Xe rfl rfl rfl rfl rfl ?_
      exact wpo_nil ⟨rfl, hi778⟩
     refine Xd rfl (fun w780 hi781 => ?_) ?_
     ·
      have hb782 := low0 hb710 hi781
      refine Xe rfl rfl rfl rfl rfl ?_
      exact wpo_nil ⟨rfl, hi781⟩
     refine Xd rfl (fun w783 hi784 => ?_) ?_
     ·
      have hb785 := low0 hb710 hi784
      refine Xe rfl rfl rfl rfl rfl ?_
      exact wpo_nil ⟨rfl, hi784⟩
     refine Xd rfl (fun w786 hi787 => ?_) ?_
     ·
      have hb788 := low0 hb710 hi787
      refine Xe rfl rfl rfl rfl rfl ?_
      exact wpo_nil ⟨rfl, hi787⟩
     refine Xd rfl (fun w789 hi790 => ?_) ?_
     ·
      have hb791 := low0 hb710 hi790
      refine Xe rfl rfl rfl rfl rfl ?_
      exact wpo_nil ⟨rfl, hi790⟩
     exact Qc
    ·
     intro w792 hi793
     have hb794 := low0 hb710 hi793
     iterate 3 refine Xe rfl rfl rfl rfl rfl ?_
     refine wpo_pickf (v := .bool false) rfl rfl rfl rfl ?_
     refine wpo_assign (v := .bool false) rfl rfl ?_
     refine wpo_nil ?_
     refine Xo ?_
     refine Xk ?_
     refine ⟨.bool false, res1 rfl rfl, ?_, hb794⟩
     exact congrArg Value.bool (Gz h102).symm
   ·
    refine Xa ?_
    refine wpo_box (v := .agg #[.int .i64 l.s, .int .i64 l.v]) (cs := #[.int .i64 l.s, .int .i64 l.v]) rfl rfl rfl ?_
    intro B795 w796 hN797
    have hlB795 := Xv hN797 hb0
    have hb798 := low0 hb0 hN797.grw
    refine wpo_assign (v := .bool false) rfl rfl ?_
    refine wpo_nil ?_
    refine Xh ?_
    refine Yx (m := 17) (vals := [(7, .slice a ms.length c), (8, .bool (tableOk (tabT ms))), (9, .bool (tableOk (tabT ms))), (10, .slice b ps.length e), (11, .bool (tableOk (tabT ps))), (12, .bool (tableOk (tabT ps))), (13, .bool (tableOk (tabT ps))), (14, undef), (15, undef), (16, .bool false), (17, .bool false), (18, undef), (19, undef), (20, undef), (21, undef), (22, undef), (23, undef)]) (fun w' => w796.grownBy w' none) Qd (by kernel_rfl) (X4 _) ?_ ?_
    ·
     refine Xd rfl (fun w823 hi824 => ?_) ?_
     ·
      have hb825 := low0 hb798 hi824
      refine wpo_move (v := .slice a ms.length c) rfl rfl ?_
      exact wpo_nil ⟨rfl, hi824⟩
     refine Xd rfl (fun w826 hi827 => ?_) ?_
     ·
      have hb828 := low0 hb798 hi827
      refine Xi (vs := [.slice a ms.length c]) Vz (Xc rfl Xg) rfl (Qt  _ ms _ _ (TabAt.low ht hb828) hlen (by omega)) ?_
      rintro _ w829 ⟨rfl, hg830⟩
      have hb831 := low0 hb828 hg830
      exact wpo_nil ⟨rfl, (Xj hi827 hg830)⟩
     refine Xd rfl (fun w832 hi833 => ?_) ?_
     ·
      have hb834 := low0 hb798 hi833
      refine wpo_move (v := .bool (tableOk (tabT ms))) rfl rfl ?_
      exact wpo_nil ⟨rfl, hi833⟩
     refine Xd rfl (fun w835 hi836 => ?_) ?_
     ·
      have hb837 := low0 hb798 hi836
      refine Xb rfl rfl rfl h101 ?_
      refine wpo_move (v := .slice b ps.length e) rfl rfl ?_
      exact wpo_nil ⟨rfl, hi836⟩
     refine Xd rfl (fun w838 hi839 => ?_) ?_
     ·
      have hb840 := low0 hb798 hi839
      refine Xb rfl rfl rfl h101 ?_
      refine Xi (vs := [.slice b ps.length e]) Vz (Xc rfl Xg) rfl (Qt  _ ps _ _ (TabAt.low hp hb840) hlep (by omega)) ?_
      rintro _ w841 ⟨rfl, hg842⟩
      have hb843 := low0 hb840 hg842
      exact wpo_nil ⟨rfl, (Xj hi839 hg842)⟩
     refine Xd rfl (fun w844 hi845 => ?_) ?_
     ·
      have hb846 := low0 hb798 hi845
      refine wpo_pickt (v := .bool (tableOk (tabT ps))) rfl h101 rfl rfl ?_
      exact wpo_nil ⟨rfl, hi845⟩
     refine Xd rfl (fun w847 hi848 => ?_) ?_
     ·
      have hb849 := low0 hb798 hi848
      refine wpo_move (v := .bool (tableOk (tabT ps))) rfl rfl ?_
      exact wpo_nil ⟨rfl, hi848⟩
     refine Xd rfl (fun w850 hi851 => ?_) ?_
     ·
      have hb852 := low0 hb798 hi851
      refine Xe rfl rfl rfl h102 rfl ?_
      exact wpo_nil ⟨rfl, hi851⟩
     refine Xd rfl (fun w853 hi854 => ?_) ?_
     ·
      have hb855 := low0 hb798 hi854
      refine Xe rfl rfl rfl h102 rfl ?_
      exact wpo_nil ⟨rfl, hi854⟩
     refine Xd rfl (fun w856 hi857 => ?_) ?_
     ·
      have hb858 := low0 hb798 hi857
      refine wpo_pickf (v := .bool false) rfl h102 rfl rfl ?_
      exact wpo_nil ⟨rfl, hi857⟩
     refine Xd rfl (fun w859 hi860 => ?_) ?_
     ·
      have hb861 := low0 hb798 hi860
      refine wpo_move (v := .bool false) rfl rfl ?_
      exact wpo_nil ⟨rfl, hi860⟩
     refine Xd rfl (fun w862 hi863 => ?_) ?_
     ·
      have hb864 := low0 hb798 hi863
      refine Xe rfl rfl rfl rfl rfl ?_
      exact wpo_nil ⟨rfl, hi863⟩
     refine Xd rfl (fun w865 hi866 => ?_) ?_
     ·
      have hb867 := low0 hb798 hi866
      refine Xe rfl rfl rfl rfl rfl ?_
      exact wpo_nil ⟨rfl, hi866⟩
     refine Xd rfl (fun w868 hi869 => ?_) ?_
     ·
      have hb870 := low0 hb798 hi869
      refine Xe rfl rfl rfl rfl rfl ?_
      exact wpo_nil ⟨rfl, hi869⟩
     refine Xd rfl (fun w871 hi872 => ?_) ?_
     ·
      have hb873 := low0 hb798 hi872
      refine Xe rfl rfl rfl rfl rfl ?_
      exact wpo_nil ⟨rfl, hi872⟩
     refine Xd rfl (fun w874 hi875 => ?_) ?_
     ·
      have hb876 := low0 hb798 hi875
      refine Xe rfl rfl rfl rfl rfl ?_
      exact wpo_nil ⟨rfl, hi875⟩
     refine Xd rfl (fun w877 hi878 => ?_) ?_
     ·
      have hb879 := low0 hb798 hi878
      refine Xe rfl rfl rfl rfl rfl ?_
      exact wpo_nil ⟨rfl, hi878⟩
     exact Qc
    ·
     intro w880 hi881
     have hb882 := low0 hb798 hi881
     iterate 3 refine Xe rfl rfl rfl rfl rfl ?_
     refine wpo_pickf (v := .bool false) rfl rfl rfl rfl ?_
     refine wpo_assign (v := .bool false) rfl rfl ?_
     refine wpo_nil ?_
     refine Xo ?_
     refine Xk ?_
     refine ⟨.bool false, res1 rfl rfl, ?_, hb882⟩
     exact congrArg Value.bool (Gz h102).symm
 ·
  rcases X2 (tableOk (tabT ps)) with h883 | h883
  ·
   rcases X2 (labelOk l) with h884 | h884
   ·
    refine Xa ?_
    refine wpo_box (v := .agg #[.int .i64 l.s, .int .i64 l.v]) (cs := #[.int .i64 l.s, .int .i64 l.v]) rfl rfl rfl ?_
    intro B885 w886 hN887
    have hlB885 := Xv hN887 hb0
    have hb888 := low0 hb0 hN887.grw
    refine wpo_assign (v := .bool false) rfl rfl ?_
    refine wpo_nil ?_
    refine Xh ?_
    refine Yx (m := 17) (vals := [(7, .slice a ms.length c), (8, .bool (tableOk (tabT ms))), (9, .bool (tableOk (tabT ms))), (10, undef), (11, undef), (12, .bool false), (13, .bool false), (14, undef), (15, undef), (16, .bool false), (17, .bool false), (18, undef), (19, undef), (20, undef), (21, undef), (22, undef), (23, undef)]) (fun w' => w886.grownBy w' none) Qd (by kernel_rfl) (X4 _) ?_ ?_
    ·
     refine Xd rfl (fun w901 hi902 => ?_) ?_
     ·
      have hb903 := low0 hb888 hi902
      refine wpo_move (v := .slice a ms.length c) rfl rfl ?_
      exact wpo_nil ⟨rfl, hi902⟩
     refine Xd rfl (fun w904 hi905 => ?_) ?_
     ·
      have hb906 := low0 hb888 hi905
      refine Xi (vs := [.slice a ms.length c]) Vz (Xc rfl Xg) rfl (Qt  _ ms _ _ (TabAt.low ht hb906) hlen (by omega)) ?_
      rintro _ w907 ⟨rfl, hg908⟩
      have hb909 := low0 hb906 hg908
      exact wpo_nil ⟨rfl, (Xj hi905 hg908)⟩
     refine Xd rfl (fun w910 hi911 => ?_) ?_
     ·
      have hb912 := low0 hb888 hi911
      refine wpo_move (v := .bool (tableOk (tabT ms))) rfl rfl ?_
      exact wpo_nil ⟨rfl, hi911⟩
     refine Xd rfl (fun w913 hi914 => ?_) ?_
     ·
      have hb915 := low0 hb888 hi914
      refine Xe rfl rfl rfl h101 rfl ?_
      exact wpo_nil ⟨rfl, hi914⟩
     refine Xd rfl (fun w916 hi917 => ?_) ?_
     ·
      have hb918 := low0 hb888 hi917
      refine Xe rfl rfl rfl h101 rfl ?_
      exact wpo_nil ⟨rfl, hi917⟩
     refine Xd rfl (fun w919 hi920 => ?_) ?_
     ·
      have hb921 := low0 hb888 hi920
      refine wpo_pickf (v := .bool false) rfl h101 rfl rfl ?_
      exact wpo_nil ⟨rfl, hi920⟩
     refine Xd rfl (fun w922 hi923 => ?_) ?_
     ·
      have hb924 := low0 hb888 hi923
      refine wpo_move (v := .bool false) rfl rfl ?_
      exact wpo_nil ⟨rfl, hi923⟩
     refine Xd rfl (fun w925 hi926 => ?_) ?_
     ·
      have hb927 := low0 hb888 hi926
      refine Xe rfl rfl rfl rfl rfl ?_
      exact wpo_nil ⟨rfl, hi926⟩
     refine Xd rfl (fun w928 hi929 => ?_) ?_
     ·
      have hb930 := low0 hb888 hi929
      refine Xe rfl rfl rfl rfl rfl ?_
      exact wpo_nil ⟨rfl, hi929⟩
     refine Xd rfl (fun w931 hi932 => ?_) ?_
     ·
      have hb933 := low0 hb888 hi932
      refine wpo_pickf (v := .bool false) rfl rfl rfl rfl ?_
      exact wpo_nil ⟨rfl, hi932⟩
     refine Xd rfl (fun w934 hi935 => ?_) ?_
     ·
      have hb936 := low0 hb888 hi935
      refine wpo_move (v := .bool false) rfl rfl ?_
      exact wpo_nil ⟨rfl, hi935⟩
     refine Xd rfl (fun w937 hi938 => ?_) ?_
     ·
      have hb939 := low0 hb888 hi938
      refine Xe rfl rfl rfl rfl rfl ?_
      exact wpo_nil ⟨rfl, hi938⟩
     refine Xd rfl (fun w940 hi941 => ?_) ?_
     ·
      have hb942 := low0 hb888 hi941
      refine Xe rfl rfl rfl rfl rfl ?_
      exact wpo_nil ⟨rfl, hi941⟩
     refine Xd rfl (fun w943 hi944 => ?_) ?_
     ·
      have hb945 := low0 hb888 hi944
      refine Xe rfl rfl rfl rfl rfl ?_
      exact wpo_nil ⟨rfl, hi944⟩
     refine Xd rfl (fun w946 hi947 => ?_) ?_
     ·
      have hb948 := low0 hb888 hi947
      refine Xe rfl rfl rfl rfl rfl ?_
      exact wpo_nil ⟨rfl, hi947⟩
     refine Xd rfl (fun w949 hi950 => ?_) ?_
     ·
      have hb951 := low0 hb888 hi950
      refine Xe rfl rfl rfl rfl rfl ?_
      exact wpo_nil ⟨rfl, hi950⟩
     refine Xd rfl (fun w952 hi953 => ?_) ?_
     ·
      have hb954 := low0 hb888 hi953
      refine Xe rfl rfl rfl rfl rfl ?_
      exact wpo_nil ⟨rfl, hi953⟩
     exact Qc
    ·
     intro w955 hi956
     have hb957 := low0 hb888 hi956
     iterate 3 refine Xe rfl rfl rfl rfl rfl ?_
     refine wpo_pickf (v := .bool false) rfl rfl rfl rfl ?_
     refine wpo_assign (v := .bool false) rfl rfl ?_
     refine wpo_nil ?_
     refine Xo ?_
     refine Xk ?_
     refine ⟨.bool false, res1 rfl rfl, ?_, hb957⟩
     exact congrArg Value.bool (K9 h101).symm
   ·
    refine Xa ?_
    refine wpo_box (v := .agg #[.int .i64 l.s, .int .i64 l.v]) (cs := #[.int .i64 l.s, .int .i64 l.v]) rfl rfl rfl ?_
    intro B958 w959 hN960
    have hlB958 := Xv hN960 hb0
    have hb961 := low0 hb0 hN960.grw
    refine wpo_assign (v := .bool false) rfl rfl ?_
    refine wpo_nil ?_
    refine Xh ?_
    refine Yx (m := 17) (vals := [(7, .slice a ms.length c), (8, .bool (tableOk (tabT ms))), (9, .bool (tableOk (tabT ms))), (10, undef), (11, undef), (12, .bool false), (13, .bool false), (14, undef), (15, undef), (16, .bool false), (17, .bool false), (18, undef), (19, undef), (20, undef), (21, undef), (22, undef), (23, undef)]) (fun w' => w959.grownBy w' none) Qd (by kernel_rfl) (X4 _) ?_ ?_
    ·
     refine Xd rfl (fun w974 hi975 => ?_) ?_
     ·
      have hb976 := low0 hb961 hi975
      refine wpo_move (v := .slice a ms.length c) rfl rfl ?_
      exact wpo_nil ⟨rfl, hi975⟩
     refine Xd rfl (fun w977 hi978 => ?_) ?_
     ·
      have hb979 := low0 hb961 hi978
      refine Xi (vs := [.slice a ms.length c]) Vz (Xc rfl Xg) rfl (Qt  _ ms _ _ (TabAt.low ht hb979) hlen (by omega)) ?_
      rintro _ w980 ⟨rfl, hg981⟩
      have hb982 := low0 hb979 hg981
      exact wpo_nil ⟨rfl, (Xj hi978 hg981)⟩
     refine Xd rfl (fun w983 hi984 => ?_) ?_
     ·
      have hb985 := low0 hb961 hi984
      refine wpo_move (v := .bool (tableOk (tabT ms))) rfl rfl ?_
      exact wpo_nil ⟨rfl, hi984⟩
     refine Xd rfl (fun w986 hi987 => ?_) ?_
     ·
      have hb988 := low0 hb961 hi987
      refine Xe rfl rfl rfl h101 rfl ?_
      exact wpo_nil ⟨rfl, hi987⟩
     refine Xd rfl (fun w989 hi990 => ?_) ?_
     ·
      have hb991 := low0 hb961 hi990
      refine Xe rfl rfl rfl h101 rfl ?_
      exact wpo_nil ⟨rfl, hi990⟩
     refine Xd rfl (fun w992 hi993 => ?_) ?_
     ·
      have hb994 := low0 hb961 hi993
      refine wpo_pickf (v := .bool false) rfl h101 rfl rfl ?_
      exact wpo_nil ⟨rfl, hi993⟩
     refine Xd rfl (fun w995 hi996 => ?_) ?_
     ·
      have hb997 := low0 hb961 hi996
      refine wpo_move (v := .bool false) rfl rfl ?_
      exact wpo_nil ⟨rfl, hi996⟩
     refine Xd rfl (fun w998 hi999 => ?_) ?_
     ·
      have hb1000 := low0 hb961 hi999
      refine Xe rfl rfl rfl rfl rfl ?_
      exact wpo_nil ⟨rfl, hi999⟩
     refine Xd rfl (fun w1001 hi1002 => ?_) ?_
     ·
      have hb1003 := low0 hb961 hi1002
      refine Xe rfl rfl rfl rfl rfl ?_
      exact wpo_nil ⟨rfl, hi1002⟩
     refine Xd rfl (fun w1004 hi1005 => ?_) ?_
     ·
      have hb1006 := low0 hb961 hi1005
      refine wpo_pickf (v := .bool false) rfl rfl rfl rfl ?_
      exact wpo_nil ⟨rfl, hi1005⟩
     refine Xd rfl (fun w1007 hi1008 => ?_) ?_
     ·
      have hb1009 := low0 hb961 hi1008
      refine wpo_move (v := .bool false) rfl rfl ?_
      exact wpo_nil ⟨rfl, hi1008⟩
     refine Xd rfl (fun w1010 hi1011 => ?_) ?_
     ·
      have hb1012 := low0 hb961 hi1011
      refine Xe rfl rfl rfl rfl rfl ?_
      exact wpo_nil ⟨rfl, hi1011⟩
     refine Xd rfl (fun w1013 hi1014 => ?_) ?_
     ·
      have hb1015 := low0 hb961 hi1014
      refine Xe rfl rfl rfl rfl rfl ?_
      exact wpo_nil ⟨rfl, hi1014⟩
     refine Xd rfl (fun w1016 hi1017 => ?_) ?_
     ·
      have hb1018 := low0 hb961 hi1017
      refine Xe rfl rfl rfl rfl rfl ?_
      exact wpo_nil ⟨rfl, hi1017⟩
     refine Xd rfl (fun w1019 hi1020 => ?_) ?_
     ·
      have hb1021 := low0 hb961 hi1020
      refine Xe rfl rfl rfl rfl rfl ?_
      exact wpo_nil ⟨rfl, hi1020⟩
     refine Xd rfl (fun w1022 hi1023 => ?_) ?_
     ·
      have hb1024 := low0 hb961 hi1023
      refine Xe rfl rfl rfl rfl rfl ?_
      exact wpo_nil ⟨rfl, hi1023⟩
     refine Xd rfl (fun w1025 hi1026 => ?_) ?_
     ·
      have hb1027 := low0 hb961 hi1026
      refine Xe rfl rfl rfl rfl rfl ?_
      exact wpo_nil ⟨rfl, hi1026⟩
     exact Qc
    ·
     intro w1028 hi1029
     have hb1030 := low0 hb961 hi1029
     iterate 3 refine Xe rfl rfl rfl rfl rfl ?_
     refine wpo_pickf (v := .bool false) rfl rfl rfl rfl ?_
     refine wpo_assign (v := .bool false) rfl rfl ?_
     refine wpo_nil ?_
     refine Xo ?_
     refine Xk ?_
     refine ⟨.bool false, res1 rfl rfl, ?_, hb1030⟩
     exact congrArg Value.bool (K9 h101).symm
  ·
   rcases X2 (labelOk l) with h1031 | h1031
   ·
    refine Xa ?_
    refine wpo_box (v := .agg #[.int .i64 l.s, .int .i64 l.v]) (cs := #[.int .i64 l.s, .int .i64 l.v]) rfl rfl rfl ?_
    intro B1032 w1033 hN1034
    have hlB1032 := Xv hN1034 hb0
    have hb1035 := low0 hb0 hN1034.grw
    refine wpo_assign (v := .bool false) rfl rfl ?_
    refine wpo_nil ?_
    refine Xh ?_
    refine Yx (m := 17) (vals := [(7, .slice a ms.length c), (8, .bool (tableOk (tabT ms))), (9, .bool (tableOk (tabT ms))), (10, undef), (11, undef), (12, .bool false), (13, .bool false), (14, undef), (15, undef), (16, .bool false), (17, .bool false), (18, undef), (19, undef), (20, undef), (21, undef), (22, undef), (23, undef)]) (fun w' => w1033.grownBy w' none) Qd (by kernel_rfl) (X4 _) ?_ ?_
    ·
     refine Xd rfl (fun w1048 hi1049 => ?_) ?_
     ·
      have hb1050 := low0 hb1035 hi1049
      refine wpo_move (v := .slice a ms.length c) rfl rfl ?_
      exact wpo_nil ⟨rfl, hi1049⟩
     refine Xd rfl (fun w1051 hi1052 => ?_) ?_
     ·
      have hb1053 := low0 hb1035 hi1052
      refine Xi (vs := [.slice a ms.length c]) Vz (Xc rfl Xg) rfl (Qt  _ ms _ _ (TabAt.low ht hb1053) hlen (by omega)) ?_
      rintro _ w1054 ⟨rfl, hg1055⟩
      have hb1056 := low0 hb1053 hg1055
      exact wpo_nil ⟨rfl, (Xj hi1052 hg1055)⟩
     refine Xd rfl (fun w1057 hi1058 => ?_) ?_
     ·
      have hb1059 := low0 hb1035 hi1058
      refine wpo_move (v := .bool (tableOk (tabT ms))) rfl rfl ?_
      exact wpo_nil ⟨rfl, hi1058⟩
     refine Xd rfl (fun w1060 hi1061 => ?_) ?_
     ·
      have hb1062 := low0 hb1035 hi1061
      refine Xe rfl rfl rfl h101 rfl ?_
      exact wpo_nil ⟨rfl, hi1061⟩
     refine Xd rfl (fun w1063 hi1064 => ?_) ?_
     ·
      have hb1065 := low0 hb1035 hi1064
      refine Xe rfl rfl rfl h101 rfl ?_
      exact wpo_nil ⟨rfl, hi1064⟩
     refine Xd rfl (fun w1066 hi1067 => ?_) ?_
     ·
      have hb1068 := low0 hb1035 hi1067
      refine wpo_pickf (v := .bool false) rfl h101 rfl rfl ?_
      exact wpo_nil ⟨rfl, hi1067⟩
     refine Xd rfl (fun w1069 hi1070 => ?_) ?_
     ·
      have hb1071 := low0 hb1035 hi1070
      refine wpo_move (v := .bool false) rfl rfl ?_
      exact wpo_nil ⟨rfl, hi1070⟩
     refine Xd rfl (fun w1072 hi1073 => ?_) ?_
     ·
      have hb1074 := low0 hb1035 hi1073
      refine Xe rfl rfl rfl rfl rfl ?_
      exact wpo_nil ⟨rfl, hi1073⟩
     refine Xd rfl (fun w1075 hi1076 => ?_) ?_
     ·
      have hb1077 := low0 hb1035 hi1076
      refine Xe rfl rfl rfl rfl rfl ?_
      exact wpo_nil ⟨rfl, hi1076⟩
     refine Xd rfl (fun w1078 hi1079 => ?_) ?_
     ·
      have hb1080 := low0 hb1035 hi1079
      refine wpo_pickf (v := .bool false) rfl rfl rfl rfl ?_
      exact wpo_nil ⟨rfl, hi1079⟩
     refine Xd rfl (fun w1081 hi1082 => ?_) ?_
     ·
      have hb1083 := low0 hb1035 hi1082
      refine wpo_move (v := .bool false) rfl rfl ?_
      exact wpo_nil ⟨rfl, hi1082⟩
     refine Xd rfl (fun w1084 hi1085 => ?_) ?_
     ·
      have hb1086 := low0 hb1035 hi1085
      refine Xe rfl rfl rfl rfl rfl ?_
      exact wpo_nil ⟨rfl, hi1085⟩
     refine Xd rfl (fun w1087 hi1088 => ?_) ?_
     ·
      have hb1089 := low0 hb1035 hi1088
      refine Xe rfl rfl rfl rfl rfl ?_
      exact wpo_nil ⟨rfl, hi1088⟩
     refine Xd rfl (fun w1090 hi1091 => ?_) ?_
     ·
      have hb1092 := low0 hb1035 hi1091
      refine Xe rfl rfl rfl rfl rfl ?_
      exact wpo_nil ⟨rfl, hi1091⟩
     refine Xd rfl (fun w1093 hi1094 => ?_) ?_
     ·
      have hb1095 := low0 hb1035 hi1094
      refine Xe rfl rfl rfl rfl rfl ?_
      exact wpo_nil ⟨rfl, hi1094⟩
     refine Xd rfl (fun w1096 hi1097 => ?_) ?_
     ·
      have hb1098 := low0 hb1035 hi1097
      refine Xe rfl rfl rfl rfl rfl ?_
      exact wpo_nil ⟨rfl, hi1097⟩
     refine Xd rfl (fun w1099 hi1100 => ?_) ?_
     ·
      have hb1101 := low0 hb1035 hi1100
      refine Xe rfl rfl rfl rfl rfl ?_
      exact wpo_nil ⟨rfl, hi1100⟩
     exact Qc
    ·
     intro w1102 hi1103
     have hb1104 := low0 hb1035 hi1103
     iterate 3 refine Xe rfl rfl rfl rfl rfl ?_
     refine wpo_pickf (v := .bool false) rfl rfl rfl rfl ?_
     refine wpo_assign (v := .bool false) rfl rfl ?_
     refine wpo_nil ?_
     refine Xo ?_
     refine Xk ?_
     refine ⟨.bool false, res1 rfl rfl, ?_, hb1104⟩
     exact congrArg Value.bool (K9 h101).symm
   ·
    refine Xa ?_
    refine wpo_box (v := .agg #[.int .i64 l.s, .int .i64 l.v]) (cs := #[.int .i64 l.s, .int .i64 l.v]) rfl rfl rfl ?_
    intro B1105 w1106 hN1107
    have hlB1105 := Xv hN1107 hb0
    have hb1108 := low0 hb0 hN1107.grw
    refine wpo_assign (v := .bool false) rfl rfl ?_
    refine wpo_nil ?_
    refine Xh ?_
    refine Yx (m := 17) (vals := [(7, .slice a ms.length c), (8, .bool (tableOk (tabT ms))), (9, .bool (tableOk (tabT ms))), (10, undef), (11, undef), (12, .bool false), (13, .bool false), (14, undef), (15, undef), (16, .bool false), (17, .bool false), (18, undef), (19, undef), (20, undef), (21, undef), (22, undef), (23, undef)]) (fun w' => w1106.grownBy w' none) Qd (by kernel_rfl) (X4 _) ?_ ?_
    ·
     refine Xd rfl (fun w1121 hi1122 => ?_) ?_
     ·
      have hb1123 := low0 hb1108 hi1122
      refine wpo_move (v := .slice a ms.length c) rfl rfl ?_
      exact wpo_nil ⟨rfl, hi1122⟩
     refine Xd rfl (fun w1124 hi1125 => ?_) ?_
     ·
      have hb1126 := low0 hb1108 hi1125
      refine Xi (vs := [.slice a ms.length c]) Vz (Xc rfl Xg) rfl (Qt  _ ms _ _ (TabAt.low ht hb1126) hlen (by omega)) ?_
      rintro _ w1127 ⟨rfl, hg1128⟩
      have hb1129 := low0 hb1126 hg1128
      exact wpo_nil ⟨rfl, (Xj hi1125 hg1128)⟩
     refine Xd rfl (fun w1130 hi1131 => ?_) ?_
     ·
      have hb1132 := low0 hb1108 hi1131
      refine wpo_move (v := .bool (tableOk (tabT ms))) rfl rfl ?_
      exact wpo_nil ⟨rfl, hi1131⟩
     refine Xd rfl (fun w1133 hi1134 => ?_) ?_
     ·
      have hb1135 := low0 hb1108 hi1134
      refine Xe rfl rfl rfl h101 rfl ?_
      exact wpo_nil ⟨rfl, hi1134⟩
     refine Xd rfl (fun w1136 hi1137 => ?_) ?_
     ·
      have hb1138 := low0 hb1108 hi1137
      refine Xe rfl rfl rfl h101 rfl ?_
      exact wpo_nil ⟨rfl, hi1137⟩
     refine Xd rfl (fun w1139 hi1140 => ?_) ?_
     ·
      have hb1141 := low0 hb1108 hi1140
      refine wpo_pickf (v := .bool false) rfl h101 rfl rfl ?_
      exact wpo_nil ⟨rfl, hi1140⟩
     refine Xd rfl (fun w1142 hi1143 => ?_) ?_
     ·
      have hb1144 := low0 hb1108 hi1143
      refine wpo_move (v := .bool false) rfl rfl ?_
      exact wpo_nil ⟨rfl, hi1143⟩
     refine Xd rfl (fun w1145 hi1146 => ?_) ?_
     ·
      have hb1147 := low0 hb1108 hi1146
      refine Xe rfl rfl rfl rfl rfl ?_
      exact wpo_nil ⟨rfl, hi1146⟩
     refine Xd rfl (fun w1148 hi1149 => ?_) ?_
     ·
      have hb1150 := low0 hb1108 hi1149
      refine Xe rfl rfl rfl rfl rfl ?_
      exact wpo_nil ⟨rfl, hi1149⟩
     refine Xd rfl (fun w1151 hi1152 => ?_) ?_
     ·
      have hb1153 := low0 hb1108 hi1152
      refine wpo_pickf (v := .bool false) rfl rfl rfl rfl ?_
      exact wpo_nil ⟨rfl, hi1152⟩
     refine Xd rfl (fun w1154 hi1155 => ?_) ?_
     ·
      have hb1156 := low0 hb1108 hi1155
      refine wpo_move (v := .bool false) rfl rfl ?_
      exact wpo_nil ⟨rfl, hi1155⟩
     refine Xd rfl (fun w1157 hi1158 => ?_) ?_
     ·
      have hb1159 := low0 hb1108 hi1158
      refine Xe rfl rfl rfl rfl rfl ?_
      exact wpo_nil ⟨rfl, hi1158⟩
     refine Xd rfl (fun w1160 hi1161 => ?_) ?_
     ·
      have hb1162 := low0 hb1108 hi1161
      refine Xe rfl rfl rfl rfl rfl ?_
      exact wpo_nil ⟨rfl, hi1161⟩
     refine Xd rfl (fun w1163 hi1164 => ?_) ?_
     ·
      have hb1165 := low0 hb1108 hi1164
      refine Xe rfl rfl rfl rfl rfl ?_
      exact wpo_nil ⟨rfl, hi1164⟩
     refine Xd rfl (fun w1166 hi1167 => ?_) ?_
     ·
      have hb1168 := low0 hb1108 hi1167
      refine Xe rfl rfl rfl rfl rfl ?_
      exact wpo_nil ⟨rfl, hi1167⟩
     refine Xd rfl (fun w1169 hi1170 => ?_) ?_
     ·
      have hb1171 := low0 hb1108 hi1170
      refine Xe rfl rfl rfl rfl rfl ?_
      exact wpo_nil ⟨rfl, hi1170⟩
     refine Xd rfl (fun w1172 hi1173 => ?_) ?_
     ·
      have hb1174 := low0 hb1108 hi1173
      refine Xe rfl rfl rfl rfl rfl ?_
      exact wpo_nil ⟨rfl, hi1173⟩
     exact Qc
    ·
     intro w1175 hi1176
     have hb1177 := low0 hb1108 hi1176
     iterate 3 refine Xe rfl rfl rfl rfl rfl ?_
     refine wpo_pickf (v := .bool false) rfl rfl rfl rfl ?_
     refine wpo_assign (v := .bool false) rfl rfl ?_
     refine wpo_nil ?_
     refine Xo ?_
     refine Xk ?_
     refine ⟨.bool false, res1 rfl rfl, ?_, hb1177⟩
     exact congrArg Value.bool (K9 h101).symm
end Go.Dw.J
end
section
namespace Go.Dw.J
open Go.RowKit Go.Dw Go.Proofs
set_option linter.unusedSectionVars false
set_option maxRecDepth 100000
set_option maxHeartbeats 4000000
set_option linter.unusedSimpArgs false
set_option linter.unusedVariables false
theorem Xao : goFn Try.prog 24 = true := by kernel_rfl
theorem Xap : goFn Try.prog 26 = true := by kernel_rfl
theorem I5 : goFn Try.prog 28 = true := by kernel_rfl
theorem Lp : goFn Try.prog 29 = true := by kernel_rfl
theorem I6 : goFn Try.prog 31 = true := by kernel_rfl
theorem law_FnExactViewSame [Comp] [ViewRule] (l : Lab) (w : World) (ms ps : List MTh) (a b : Option Addr) (c e : Nat) (ht : TabAt w a ms) (hp : TabAt w b ps) (hbig : TabBig ms) (hbig2 : TabBig ps) (hn : ms.length ≤ 9223372036854775807) (hn2 : ps.length ≤ 9223372036854775807) (hKB : ViewRule.base ≤ w.heap.size) : Wpf Try.prog 51 (endQ Try.prog Try.f9 (fun v w' => v = .bool true ∧ w.grownBy w' none)) (Try.f9.body.getD .skip) (f0 #[.slice a ms.length c, .slice b ps.length e, .agg #[.int .i64 l.s, .int .i64 l.v]]) w := by
 have hb0 := World.grownBy.refl w none
 refine Xa ?_
 refine wpo_box (v := .agg #[.int .i64 l.s, .int .i64 l.v]) (cs := #[.int .i64 l.s, .int .i64 l.v]) rfl rfl rfl ?_
 intro B101 w102 hN103
 have hlB101 := Xv hN103 hb0
 have hb104 := low0 hb0 hN103.grw
 refine wpo_assign (v := .bool false) rfl rfl ?_
 refine wpo_nil ?_
 refine Xa ?_
 refine wpo_assign (v := .int .i64 1048576) rfl rfl ?_
 refine wpo_nil ?_
 refine Xa ?_
 refine wpo_move (v := .slice a ms.length c) rfl rfl ?_
 refine wpo_move (v := .int .i64 1048576) rfl rfl ?_
 refine Xi (vs := [.slice a ms.length c, .int .i64 1048576]) I5 (Xc rfl (Xc rfl Xg)) rfl (Lb 1048576 _ ms _ _ (TabAt.low ht hb104) hbig (by omega) (by omega)) ?_
 rintro _ w105 ⟨n107, rfl, hn108, hn109, hn110, hg106⟩
 have hb111 := low0 hb104 hg106
 refine wpo_assign (v := .int .i64 n107) rfl rfl ?_
 refine wpo_nil ?_
 refine Xh ?_
 refine Xa ?_
 refine wpo_move (v := .int .i64 n107) rfl rfl ?_
 refine wpo_lss (q := decide (n107 < 0)) rfl rfl rfl rfl ?_
 refine wpo_nil ?_
 refine Xp rfl (fun h112 => ?_) (fun h112 => ?_)
 ·
  have h113 := of_decide_eq_true h112
  refine Xa ?_
  refine wpo_assign (v := .bool true) rfl rfl ?_
  refine wpo_nil ?_
  refine Xk ?_
  refine Xy ?_
  refine ⟨.bool true, res1 rfl rfl, ?_, hb111⟩
  rfl
 ·
  obtain ⟨hlen114, hn115⟩ := hn108 (by have hq := of_decide_eq_false h112; omega)
  have h116 := of_decide_eq_false h112
  refine Xm ?_
  refine Xo ?_
  refine Xa ?_
  refine wpo_move (v := .slice b ps.length e) rfl rfl ?_
  refine wpo_move (v := .int .i64 n107) rfl rfl ?_
  refine Xi (vs := [.slice b ps.length e, .int .i64 n107]) I5 (Xc rfl (Xc rfl Xg)) rfl (Lb n107 _ ps _ _ (TabAt.low hp hb111) hbig2 (by omega) (by omega)) ?_
  rintro _ w117 ⟨n119, rfl, hn120, hn121, hn122, hg118⟩
  have hb123 := low0 hb111 hg118
  refine wpo_assign (v := .int .i64 n119) rfl rfl ?_
  refine wpo_nil ?_
  refine Xh ?_
  refine Xa ?_
  refine wpo_move (v := .int .i64 n119) rfl rfl ?_
  refine wpo_lss (q := decide (n119 < 0)) rfl rfl rfl rfl ?_
  refine wpo_nil ?_
  refine Xp rfl (fun h124 => ?_) (fun h124 => ?_)
  ·
   have h125 := of_decide_eq_true h124
   refine Xa ?_
   refine wpo_assign (v := .bool true) rfl rfl ?_
   refine wpo_nil ?_
   refine Xk ?_
   refine Xy ?_
   refine ⟨.bool true, res1 rfl rfl, ?_, hb123⟩
   rfl
  ·
   obtain ⟨hlen126, hn127⟩ := hn120 (by have hq := of_decide_eq_false h124; omega)
   have h128 := of_decide_eq_false h124
   refine Xm ?_
   refine Xo ?_
   refine Xh ?_
   refine J7 (m := 5) [[], [0], [], [0, 1, 2], [], [0, 1, 2, 3, 4], [0, 1, 2, 3, 4, 5], [0, 1, 2, 3, 4, 5, 6]] (fun S F w' => ∃ (B222 : Nat) (ys223 : List MTh) (B234 : Nat) (ys235 : List MTh), w117.grownBy w' none ∧ F 0 = .slice a ms.length c ∧ F 1 = .slice b ps.length e ∧ F 5 = .pointer (some ⟨B101, 0, none⟩) ∧ F 6 = .bool false ∧ (S 1 = true → F 23 = .slice (some ⟨B222, 0, none⟩) ys223.length ys223.length ∧ tabT ys223 = tabT ms ∧ TabLen ys223 ∧ ys223.length = ms.length ∧ TabAt w' (some ⟨B222, 0, none⟩) ys223) ∧ (S 3 = true → F 25 = .slice (some ⟨B234, 0, none⟩) ys235.length ys235.length ∧ tabT ys235 = tabT ps ∧ TabLen ys235 ∧ ys235.length = ps.length ∧ TabAt w' (some ⟨B234, 0, none⟩) ys235) ∧ Vals S F [(0, 22, .slice a ms.length c), (2, 24, .slice b ps.length e), (4, 26, .agg #[.int .i64 l.s, .int .i64 l.v])]) Qd (by kernel_rfl) ⟨0, [], 0, [], X4 _, rfl, rfl, rfl, rfl, Qw, Qw, Ug _⟩ ?_ ?_
   ·
    refine Xn (fun S F w247 hS hbef hcl hI => ?_) ?_
    ·
     obtain ⟨B222, ys223, B234, ys235, hi248, e249, e250, e251, e252, c_1, c_3, hvs⟩ := hI
     have hb253 := low0 hb123 hi248
     refine wpo_move (v := .slice a ms.length c) e249 rfl ?_
     exact wpo_nil ⟨B222, ys223, B234, ys235, hi248, e249, e250, e251, e252, fun h => Xq 1 hS hcl rfl h, fun h => Xq 3 hS hcl rfl h, Vals.up 0 hvs rfl rfl rfl⟩
    refine Xn (fun S F w254 hS hbef hcl hI => ?_) ?_
    ·
     obtain ⟨B222, ys223, B234, ys235, hi255, e256, e257, e258, e259, c_1, c_3, hvs⟩ := hI
     have hb260 := low0 hb123 hi255
     have ev261 := Vals.at 0 hvs rfl (Xf 0 hbef rfl)
     refine Xi (vs := [.slice a ms.length c]) Lp (Xc ev261 Xg) rfl (Kd _ ms _ _ (TabAt.low ht hb260) hlen114 (by omega)) ?_
     rintro _ w269 ⟨B262, ys263, rfl, he264, hge265, k266, hX267, hg268⟩
     have hb273 := low0 hb260 hg268
     have hT270 : TabAt w269 (some ⟨B262, 0, none⟩) ys263 := ⟨Q0 Y6 k266, fun m hm => (hX267 m hm).at⟩
     have hTl271 := TabLen.of he264 hlen114
     have hll272 := Q5 he264
     exact wpo_nil ⟨B262, ys263, B234, ys235, (low0 hi255 hg268), e256, e257, e258, e259, fun _ => ⟨rfl, he264, hTl271, hll272, hT270⟩, fun h => Xq 3 hS hcl rfl h, Vals.keep hvs rfl⟩
    refine Xn (fun S F w274 hS hbef hcl hI => ?_) ?_
    ·
     obtain ⟨B222, ys223, B234, ys235, hi275, e276, e277, e278, e279, c_1, c_3, hvs⟩ := hI
     have hb280 := low0 hb123 hi275
     refine wpo_move (v := .slice b ps.length e) e277 rfl ?_
     exact wpo_nil ⟨B222, ys223, B234, ys235, hi275, e276, e277, e278, e279, c_1, fun h => Xq 3 hS hcl rfl h, Vals.up 1 hvs rfl rfl rfl⟩
    refine Xn (fun S F w281 hS hbef hcl hI => ?_) ?_
    ·
     obtain ⟨B222, ys223, B234, ys235, hi282, e283, e284, e285, e286, c_1, c_3, hvs⟩ := hI
     have hb287 := low0 hb123 hi282
     have ev288 := Vals.at 0 hvs rfl (Xf 0 hbef rfl)
     obtain ⟨e289, he224, hTl231, hll232, hT230⟩ := c_1 (Xf 1 hbef rfl)
     have ev290 := Vals.at 1 hvs rfl (Xf 2 hbef rfl)
     refine Xi (vs := [.slice b ps.length e]) Lp (Xc ev290 Xg) rfl (Kd _ ps _ _ (TabAt.low hp hb287) hlen126 (by omega)) ?_
     rintro _ w298 ⟨B291, ys292, rfl, he293, hge294, k295, hX296, hg297⟩
     have hb302 := low0 hb287 hg297
     have hT299 : TabAt w298 (some ⟨B291, 0, none⟩) ys292 := ⟨Q0 Y6 k295, fun m hm => (hX296 m hm).at⟩
     have hTl300 := TabLen.of he293 hlen126
     have hll301 := Q5 he293
     exact wpo_nil ⟨B222, ys223, B291, ys292, (low0 hi282 hg297), e283, e284, e285, e286, fun h => let ⟨y303, y304, y305, y306, y307⟩ := c_1 h; ⟨y303, y304, y305, y306, (y307).low hg297⟩, fun _ => ⟨rfl, he293, hTl300, hll301, hT299⟩, Vals.keep hvs rfl⟩
    refine Xn (fun S F w308 hS hbef hcl hI => ?_) ?_
    ·
     obtain ⟨B222, ys223, B234, ys235, hi309, e310, e311, e312, e313, c_1, c_3, hvs⟩ := hI
     have hb314 := low0 hb123 hi309
     have k315 := (((hN103.blk.grown0 hg106).grown0 hg118).grown0 hi309)
     refine wpo_loadn (vs := [.int .i64 l.s, .int .i64 l.v]) D6 e312 rfl (k315.rangeL 0 2 rfl) rfl ?_
     exact wpo_nil ⟨B222, ys223, B234, ys235, hi309, e310, e311, e312, e313, c_1, c_3, Vals.up 2 hvs rfl rfl rfl⟩
    exact Kh
   ·
    intro S F w316 hall hI
    obtain ⟨B222, ys223, B234, ys235, hi317, e318, e319, e320, e321, c_1, c_3, hvs⟩ := hI
    have hb322 := low0 hb123 hi317
    have ev323 := Vals.at 0 hvs rfl (hall 0 (by decide))
    obtain ⟨e324, he224, hTl231, hll232, hT230⟩ := c_1 (hall 1 (by decide))
    have ev325 := Vals.at 1 hvs rfl (hall 2 (by decide))
    obtain ⟨e326, he236, hTl243, hll244, hT242⟩ := c_3 (hall 3 (by decide))
    have ev327 := Vals.at 2 hvs rfl (hall 4 (by decide))
    refine Xi (vs := [.agg #[.int .i64 l.s, .int .i64 l.v]]) Dc (Xc ev327 Xg) rfl (Gp l _) ?_
    rintro _ w328 ⟨rfl, hg329⟩
    have hb330 := low0 hb322 hg329
    refine Xi (vs := [.slice (some ⟨B222, 0, none⟩) ys223.length ys223.length, .slice (some ⟨B234, 0, none⟩) ys235.length ys235.length, .agg #[.int .i64 l.s, .int .i64 l.v]]) Xap (Xc e324 (Xc e326 (Xc rfl Xg))) rfl (Rz l _ ys223 ys235 _ _ _ _ (TabAt.low hT230 hg329) (TabAt.low hT242 hg329) hTl231 hTl243 (by omega) (by omega)) ?_
    rintro _ w331 ⟨rfl, hg332⟩
    have hb333 := low0 hb330 hg332
    refine wpo_assign (v := .bool (viewSame (tabT ms) (tabT ps) l)) (congr (congrArg (fun (T U : List Th) => Value.bool (viewSame T U l)) he224) he236) rfl ?_
    refine wpo_nil ?_
    refine Xo ?_
    refine Xa ?_
    refine wpo_move (v := .slice a ms.length c) e318 rfl ?_
    refine Xi (vs := [.slice a ms.length c]) Lp (Xc rfl Xg) rfl (Kd _ ms _ _ (TabAt.low ht hb333) hlen114 (by omega)) ?_
    rintro _ w341 ⟨B334, ys335, rfl, he336, hge337, k338, hX339, hg340⟩
    have hb345 := low0 hb333 hg340
    have hT342 : TabAt w341 (some ⟨B334, 0, none⟩) ys335 := ⟨Q0 Y6 k338, fun m hm => (hX339 m hm).at⟩
    have hTl343 := TabLen.of he336 hlen114
    have hll344 := Q5 he336
    refine wpo_assign (v := .slice (some ⟨B334, 0, none⟩) ys335.length ys335.length) rfl rfl ?_
    refine wpo_nil ?_
    refine Xa ?_
    refine wpo_move (v := .slice b ps.length e) e319 rfl ?_
    refine Xi (vs := [.slice b ps.length e]) Lp (Xc rfl Xg) rfl (Kd _ ps _ _ (TabAt.low hp hb345) hlen126 (by omega)) ?_
    rintro _ w353 ⟨B346, ys347, rfl, he348, hge349, k350, hX351, hg352⟩
    have hb357 := low0 hb345 hg352
    have hT354 : TabAt w353 (some ⟨B346, 0, none⟩) ys347 := ⟨Q0 Y6 k350, fun m hm => (hX351 m hm).at⟩
    have hTl355 := TabLen.of he348 hlen126
    have hll356 := Q5 he348
    refine wpo_assign (v := .slice (some ⟨B346, 0, none⟩) ys347.length ys347.length) rfl rfl ?_
    refine wpo_nil ?_
    refine Xa ?_
    refine wpo_move (v := .slice (some ⟨B334, 0, none⟩) ys335.length ys335.length) rfl rfl ?_
    refine wpo_move (v := .slice (some ⟨B346, 0, none⟩) ys347.length ys347.length) rfl rfl ?_
    have k358 := (((((((hN103.blk.grown0 hg106).grown0 hg118).grown0 hi317).grown0 hg329).grown0 hg332).grown0 hg340).grown0 hg352)
    refine wpo_loadn (vs := [.int .i64 l.s, .int .i64 l.v]) D6 e320 rfl (k358.rangeL 0 2 rfl) rfl ?_
    refine Xi (vs := [.agg #[.int .i64 l.s, .int .i64 l.v]]) Dc (Xc rfl Xg) rfl (Gp l _) ?_
    rintro _ w359 ⟨rfl, hg360⟩
    have hb361 := low0 hb357 hg360
    refine Xi (vs := [.slice (some ⟨B334, 0, none⟩) ys335.length ys335.length, .slice (some ⟨B346, 0, none⟩) ys347.length ys347.length, .agg #[.int .i64 l.s, .int .i64 l.v]]) Xao (Xc rfl (Xc rfl (Xc rfl Xg))) rfl (Si l _ ys335 ys347 _ _ _ _ (TabAt.low hT342 (Xj hg352 hg360)) (TabAt.low hT354 hg360) hTl343 hTl355 (by omega) (by omega) (Nat.le_trans hKB hb361.size)) ?_
    rintro _ w362 ⟨rfl, hg363⟩
    have hb364 := low0 hb361 hg363
    refine wpo_assign (v := .bool (viewSame (tabT ms) (tabT ps) l)) (congr (congrArg (fun (T U : List Th) => Value.bool (viewSame T U l)) he336) he348) rfl ?_
    refine wpo_nil ?_
    refine Xh ?_
    refine Xa ?_
    refine wpo_move (v := .bool (viewSame (tabT ms) (tabT ps) l)) rfl rfl ?_
    refine wpo_move (v := .bool (viewSame (tabT ms) (tabT ps) l)) rfl rfl ?_
    refine wpo_neqb (q := false) (by kernel_rfl) rfl rfl (by simp) rfl ?_
    refine wpo_nil ?_
    refine X8 rfl rfl ?_
    refine Xm ?_
    refine Xo ?_
    refine Xh ?_
    refine Xa ?_
    refine wpo_move (v := .slice (some ⟨B334, 0, none⟩) ys335.length ys335.length) rfl rfl ?_
    refine wpo_move (v := .slice a ms.length c) e318 rfl ?_
    refine Xi (vs := [.slice a ms.length c]) Lp (Xc rfl Xg) rfl (Kd _ ms _ _ (TabAt.low ht hb364) hlen114 (by omega)) ?_
    rintro _ w372 ⟨B365, ys366, rfl, he367, hge368, k369, hX370, hg371⟩
    have hb376 := low0 hb364 hg371
    have hT373 : TabAt w372 (some ⟨B365, 0, none⟩) ys366 := ⟨Q0 Y6 k369, fun m hm => (hX370 m hm).at⟩
    have hTl374 := TabLen.of he367 hlen114
    have hll375 := Q5 he367
    refine Xi (vs := [.slice (some ⟨B334, 0, none⟩) ys335.length ys335.length, .slice (some ⟨B365, 0, none⟩) ys366.length ys366.length]) I6 (Xc rfl (Xc rfl Xg)) rfl (Hq _ ys335 ys366 _ _ _ _ (TabAt.low hT342 (Xj (Xj (Xj hg352 hg360) hg363) hg371)) hT373 hTl343 hTl374 (by omega) (by omega)) ?_
    rintro _ w377 ⟨rfl, hg378⟩
    have hb379 := low0 hb376 hg378
    refine wpo_not (b' := false) (congrArg Value.bool (decide_eq_true (he336.trans he367.symm))) rfl rfl ?_
    refine wpo_nil ?_
    refine X8 rfl rfl ?_
    refine Xm ?_
    refine Xo ?_
    refine Xh ?_
    refine Xa ?_
    refine wpo_move (v := .slice (some ⟨B346, 0, none⟩) ys347.length ys347.length) rfl rfl ?_
    refine wpo_move (v := .slice b ps.length e) e319 rfl ?_
    refine Xi (vs := [.slice b ps.length e]) Lp (Xc rfl Xg) rfl (Kd _ ps _ _ (TabAt.low hp hb379) hlen126 (by omega)) ?_
    rintro _ w387 ⟨B380, ys381, rfl, he382, hge383, k384, hX385, hg386⟩
    have hb391 := low0 hb379 hg386
    have hT388 : TabAt w387 (some ⟨B380, 0, none⟩) ys381 := ⟨Q0 Y6 k384, fun m hm => (hX385 m hm).at⟩
    have hTl389 := TabLen.of he382 hlen126
    have hll390 := Q5 he382
    refine Xi (vs := [.slice (some ⟨B346, 0, none⟩) ys347.length ys347.length, .slice (some ⟨B380, 0, none⟩) ys381.length ys381.length]) I6 (Xc rfl (Xc rfl Xg)) rfl (Hq _ ys347 ys381 _ _ _ _ (TabAt.low hT354 (Xj (Xj (Xj (Xj hg360 hg363) hg371) hg378) hg386)) hT388 hTl355 hTl389 (by omega) (by omega)) ?_
    rintro _ w392 ⟨rfl, hg393⟩
    have hb394 := low0 hb391 hg393
    refine wpo_not (b' := false) (congrArg Value.bool (decide_eq_true (he348.trans he382.symm))) rfl rfl ?_
    refine wpo_nil ?_
    refine X8 rfl rfl ?_
    refine Xm ?_
    refine Xo ?_
    refine Xa ?_
    refine wpo_assign (v := .bool true) rfl rfl ?_
    refine wpo_nil ?_
    refine Xk ?_
    refine ⟨.bool true, res1 rfl rfl, ?_, hb394⟩
    rfl
end Go.Dw.J
end
section
namespace Go.Dw
open Go.ChangeShapes Go.WideShapes Go.ChangeAt Go.RowKit Go.Deep
def fieldIs (P : Program) (t k off ty : Nat) : Bool :=
  match P.underlying t with
  | some (.struct fs) => match fs[k]? with
    | some fl => fl.offset == off && fl.type == ty
    | none => false
  | _ => false
section
variable {H : Type} {enc : TypeId × Value → H} {P : Program} {w : World} {base : Nat} {spare : Nat → Bool} {held : Bool} {fuel : Nat} {cs : List Value} {x : DataW H × List MemPlace}
theorem Jp {t k off ty : Nat} (hf : fieldIs P t k off ty = true) (h : DataW.trod enc P w base spare held fuel t cs = some x) :
    cs.length = P.cellsOf t ∧ ∃ n y, DataW.trod enc P w base spare held n ty ((cs.drop off).take (P.cellsOf ty)) = some y := by
  unfold fieldIs at hf
  split at hf
  · rename_i fs hu
    split at hf
    · rename_i fl hfl
      simp only [Bool.and_eq_true, beq_iff_eq] at hf
      obtain ⟨rfl, rfl⟩ := hf
      obtain ⟨xs, n, _, _, hl, hxl, hat⟩ := DataW.trod_struct hu h
      have hk := (Array.getElem?_eq_some_iff.1 hfl).1
      refine ⟨hl, n, xs[k]'(by omega), ?_⟩
      rw [hat k fl hfl, List.getElem?_eq_getElem (by omega)]
    · cases hf
  · cases hf
theorem Wh {off : Nat} {v : Value} (h : (cs.drop off).take 1 = [v]) : cs[off]? = some v := by
  have := congrArg (fun l : List Value => l[0]?) h
  simpa using this
theorem J2 {t k off ty : Nat} (hf : fieldIs P t k off ty = true) (ht : P.underlying ty = some (.int .i64)) (hc : P.cellsOf ty = 1) (h : DataW.trod enc P w base spare held fuel t cs = some x) : ∃ n : Int, cs[off]? = some (.int .i64 n) ∧ (Lit.int .i64 n).wf = true := by
  obtain ⟨_, n, y, hy⟩ := Jp hf h
  rw [hc] at hy
  obtain ⟨m, hm, _, hw⟩ := DataW.trod_int ht hy
  exact ⟨m, Wh hm, hw⟩
theorem U7 {t k off ty : Nat} (hf : fieldIs P t k off ty = true) (ht : P.underlying ty = some .bool) (hc : P.cellsOf ty = 1) (h : DataW.trod enc P w base spare held fuel t cs = some x) : ∃ b : Bool, cs[off]? = some (.bool b) := by
  obtain ⟨_, n, y, hy⟩ := Jp hf h
  rw [hc] at hy
  obtain ⟨m, hm, _⟩ := DataW.trod_bool ht hy
  exact ⟨m, Wh hm⟩
structure RtTy (P : Program) (t i b : TypeId) : Prop where
  f0 : fieldIs P t 0 0 i = true
  f1 : fieldIs P t 1 1 i = true
  f2 : fieldIs P t 2 2 b = true
  f3 : fieldIs P t 3 3 b = true
  f4 : fieldIs P t 4 4 b = true
  c : P.cellsOf t = 5
  ui : P.underlying i = some (.int .i64)
  ub : P.underlying b = some .bool
  ci : P.cellsOf i = 1
  cb : P.cellsOf b = 1
theorem F5 {t i b : TypeId} (ht : RtTy P t i b) (h : DataW.trod enc P w base spare held fuel t cs = some x) : ∃ r : Rt, cs = r.cells ∧ (Lit.int .i64 r.th).wf = true ∧ (Lit.int .i64 r.ve).wf = true := by
  obtain ⟨n0, h0, w0⟩ := J2 ht.f0 ht.ui ht.ci h
  obtain ⟨n1, h1, w1⟩ := J2 ht.f1 ht.ui ht.ci h
  obtain ⟨b2, h2⟩ := U7 ht.f2 ht.ub ht.cb h
  obtain ⟨b3, h3⟩ := U7 ht.f3 ht.ub ht.cb h
  obtain ⟨b4, h4⟩ := U7 ht.f4 ht.ub ht.cb h
  have hl := (Jp ht.f0 h).1
  rw [ht.c] at hl
  refine ⟨⟨n0, n1, b2, b3, b4⟩, ?_, w0, w1⟩
  match cs, hl with
  | [c0, c1, c2, c3, c4], _ =>
    simp at h0 h1 h2 h3 h4
    simp [Rt.cells, h0, h1, h2, h3, h4]
theorem U9 {α : Type} {g : α → List Value} {ok : α → Prop} {t e : TypeId} {sz : Nat} (ht : P.underlying t = some (.slice e)) (hc : P.cellsOf e = sz) (hz : 0 < sz) (hg : Wide g sz) (hrd : ∀ n cs x, DataW.trod enc P w base spare held n e cs = some x → ∃ a, cs = g a ∧ ok a)
    (h : DataW.trod enc P w base spare held fuel t cs = some x) :
    ∃ (a : Option Addr) (xs : List α) (c : Nat), cs = [.slice a xs.length c] ∧ xs.length ≤ c ∧ c ≤ maxLen ∧ SlAt w a sz (xs.map g) ∧ (∀ y ∈ xs, ok y) ∧ (a = none → c = 0) := by
  rcases open_slice ht h with ⟨rfl, _⟩ | ⟨a, len, cap, m, n, D, Pl, rfl, _, hl, hm, hmm, _, hi⟩
  · exact ⟨none, [], 0, rfl, Nat.le_refl _, Nat.zero_le _, fun k x hk => by simp at hk, fun y hy => by simp at hy, fun _ => rfl⟩
  · have hlm : len ≤ m := by
      rw [hmm]; split <;> omega
    have hex : ∀ i : Fin len, ∃ y : α, ok y ∧ ∀ j, j < sz → w.cell? (a.add (i.val * sz + j)) = (g y)[j]? := fun i => by
      obtain ⟨cs', hcs, htr⟩ := hi i.val (by omega)
      obtain ⟨y, rfl, hy⟩ := hrd _ _ _ htr
      rw [hc] at hcs
      obtain ⟨_, _, hat⟩ := World.cells?_some hcs
      refine ⟨y, hy, fun j hj => ?_⟩
      rw [← hat j hj, add_add]
    refine ⟨some a, List.ofFn fun i : Fin len => Classical.choose (hex i), cap, by simp, by simpa using hl, hm, fun k x hk => ?_, fun y hy => ?_, fun hn => by cases hn⟩
    · rw [List.getElem?_map] at hk
      cases hy : (List.ofFn fun i : Fin len => Classical.choose (hex i))[k]? with
      | none => rw [hy] at hk; simp at hk
      | some y =>
        rw [hy] at hk
        obtain rfl : g y = x := by simpa using hk
        have hkl : k < len := by
          have := (List.getElem?_eq_some_iff.1 hy).1
          simpa using this
        have hye : Classical.choose (hex ⟨k, hkl⟩) = y := by
          rw [List.getElem?_ofFn] at hy
          simpa [hkl] using hy
        have hat := (Classical.choose_spec (hex ⟨k, hkl⟩)).2
        rw [hye] at hat
        obtain ⟨b, o, spot⟩ := a
        have hspot : spot = none := by
          obtain ⟨y0, _, hy0⟩ := hex ⟨0, by omega⟩
          have h0 := hy0 0 hz
          obtain ⟨v, hv⟩ : ∃ v, (g y0)[0]? = some v := ⟨_, List.getElem?_eq_getElem (by rw [hg]; exact hz)⟩
          rw [hv] at h0
          have := World.cell?_spot h0
          simpa [Addr.add] using this
        subst hspot
        refine ⟨b, o, rfl, fun j v hj => ?_⟩
        have hjl : j < sz := by rw [← hg y]; exact (List.getElem?_eq_some_iff.1 hj).1
        rw [← hj, ← hat j hjl]
        simp only [Addr.add]
        split
        · rename_i he
          rw [show o + k * sz + j = o by omega]
        · rw [show o + (k * sz + j) = o + k * sz + j by omega]
    · obtain ⟨i, rfl⟩ := List.mem_ofFn.1 hy
      exact (Classical.choose_spec (hex i)).1
theorem Ft {α : Type} {g : α → List Value} {ok : α → Prop} {r : Reach} {b0 : Nat} {t : TypeId} {v : Value} {d : DataW H} {p : List MemPlace} (hs : (match P.underlying t with | some (.struct _) => true | _ => false) = true)
    (hrd : ∀ n cs x, DataW.trod enc P w base spare held n t cs = some x → ∃ a, cs = g a ∧ ok a) (hv : Value.okWide P w r b0 t v) (h : DataW.Trod enc P w base spare held t v d p) : ∃ q : α, v = .agg (g q).toArray ∧ ok q := by
  cases hu : P.underlying t with
  | none => rw [hu] at hs; cases hs
  | some dd =>
    rw [hu] at hs
    cases dd with
    | struct fs =>
      obtain ⟨cs, rfl, _⟩ := okWide_struct hu hv
      obtain ⟨fuel, hf⟩ := h
      obtain ⟨q, hq, h1⟩ := hrd _ _ _ hf
      refine ⟨q, ?_, h1⟩
      have : cs.toList = g q := by simpa [Value.cells] using hq
      rw [← this]
    | _ => cases hs
theorem Mf {α : Type} {g : α → List Value} {ok : α → Prop} {r : Reach} {b0 : Nat} {t e sz : Nat} {v : Value} {d : DataW H} {p : List MemPlace} (hs : P.underlying t = some (.slice e)) (hc : P.cellsOf e = sz) (hz : 0 < sz) (hg : Wide g sz)
    (hrd : ∀ n cs x, DataW.trod enc P w base spare held n e cs = some x → ∃ a, cs = g a ∧ ok a) (hv : Value.okWide P w r b0 t v) (h : DataW.Trod enc P w base spare held t v d p) :
    ∃ (a : Option Addr) (xs : List α) (c : Nat), v = .slice a xs.length c ∧ xs.length ≤ 9223372036854775807 ∧ xs.length ≤ c ∧ SlAt w a sz (xs.map g) ∧ ∀ y ∈ xs, ok y := by
  obtain ⟨a, len, cap, rfl⟩ := okWide_slice hs hv
  obtain ⟨fuel, hf⟩ := h
  obtain ⟨a', xs, c, h1, h2, h3, h4, h5, h7⟩ := U9 hs hc hz hg hrd hf
  have h6 : Value.slice a len cap = .slice a' xs.length c := by simpa [Value.cells] using h1
  refine ⟨a', xs, c, h6, ?_, h2, h4, h5⟩
  have : maxLen = 9223372036854775807 := by decide
  omega
theorem Zp {t : TypeId} (ht : P.underlying t = some (.int .i64)) (h : DataW.trod enc P w base spare held fuel t cs = some x) : ∃ n : Int, cs = icell n ∧ (Lit.int .i64 n).wf = true := by
  obtain ⟨n, hn, _, hw⟩ := DataW.trod_int ht h
  exact ⟨n, hn, hw⟩
structure LabTy (P : Program) (t i : TypeId) : Prop where
  f0 : fieldIs P t 0 0 i = true
  f1 : fieldIs P t 1 1 i = true
  c : P.cellsOf t = 2
  ui : P.underlying i = some (.int .i64)
  ci : P.cellsOf i = 1
def Lab.wf (l : Lab) : Prop := (Lit.int .i64 l.s).wf = true ∧ (Lit.int .i64 l.v).wf = true
theorem Ru {t i : TypeId} (ht : LabTy P t i) (h : DataW.trod enc P w base spare held fuel t cs = some x) : ∃ l : Lab, cs = l.cells ∧ l.wf := by
  obtain ⟨n0, h0, w0⟩ := J2 ht.f0 ht.ui ht.ci h
  obtain ⟨n1, h1, w1⟩ := J2 ht.f1 ht.ui ht.ci h
  have hl := (Jp ht.f0 h).1
  rw [ht.c] at hl
  refine ⟨⟨n0, n1⟩, ?_, w0, w1⟩
  match cs, hl with
  | [c0, c1], _ =>
    simp at h0 h1
    simp [Lab.cells, h0, h1]
def Cl.wf (q : Cl) : Prop := (Lit.int .i64 q.kind).wf = true ∧ (Lit.int .i64 q.run).wf = true ∧ (Lit.int .i64 q.a).wf = true ∧ (Lit.int .i64 q.b).wf = true ∧ (Lit.int .i64 q.n).wf = true
structure ThTy (P : Program) (t i lb rs qs re b : TypeId) : Prop where
  f0 : fieldIs P t 0 0 i = true
  f1 : fieldIs P t 1 1 lb = true
  f2 : fieldIs P t 2 3 i = true
  f3 : fieldIs P t 3 4 i = true
  f4 : fieldIs P t 4 5 rs = true
  f5 : fieldIs P t 5 6 qs = true
  f6 : fieldIs P t 6 7 i = true
  c : P.cellsOf t = 8
  ui : P.underlying i = some (.int .i64)
  ci : P.cellsOf i = 1
  cr : P.cellsOf rs = 1
  cq : P.cellsOf qs = 1
  ur : P.underlying rs = some (.slice re)
  uq : P.underlying qs = some (.slice i)
  lab : LabTy P lb i
  rt : RtTy P re i b
def MTh.inn (w : World) (m : MTh) : Prop := ThAt w m ∧ (m.t.slots.length ≤ 9223372036854775807 ∧ m.t.queue.length ≤ 9223372036854775807) ∧ m.t.lab.wf
theorem Mh {t i lb rs qs re b : TypeId} (ht : ThTy P t i lb rs qs re b) (h : DataW.trod enc P w base spare held fuel t cs = some x) : ∃ m : MTh, cs = m.cells ∧ m.inn w := by
  obtain ⟨n0, h0, w0⟩ := J2 ht.f0 ht.ui ht.ci h
  obtain ⟨_, y1, z1, hz1⟩ := Jp ht.f1 h
  rw [ht.lab.c] at hz1
  obtain ⟨l, hl1, hl2⟩ := Ru ht.lab hz1
  obtain ⟨n2, h2, w2⟩ := J2 ht.f2 ht.ui ht.ci h
  obtain ⟨n3, h3, w3⟩ := J2 ht.f3 ht.ui ht.ci h
  obtain ⟨_, y4, z4, hz4⟩ := Jp ht.f4 h
  rw [ht.cr] at hz4
  obtain ⟨sa, ss, sc, hs1, hs2, hs3, hs4, _, hs5⟩ := U9 (g := Rt.cells) (ok := fun q => (Lit.int .i64 q.th).wf = true ∧ (Lit.int .i64 q.ve).wf = true) ht.ur ht.rt.c (by omega) Y3 (fun n cs x hx => F5 ht.rt hx) hz4
  obtain ⟨_, y5, z5, hz5⟩ := Jp ht.f5 h
  rw [ht.cq] at hz5
  obtain ⟨qa, qs', qc, hq1, hq2, hq3, hq4, _, hq5⟩ := U9 (g := icell) (ok := fun q => (Lit.int .i64 q).wf = true) ht.uq ht.ci (by omega) Qb (fun n cs x hx => Zp ht.ui hx) hz5
  obtain ⟨n6, h6, w6⟩ := J2 ht.f6 ht.ui ht.ci h
  have hl := (Jp ht.f0 h).1
  rw [ht.c] at hl
  have hmx : maxLen = 9223372036854775807 := by decide
  refine ⟨⟨⟨n0, l, n2, n3, ss, qs', n6⟩, sa, sc, qa, qc⟩, ?_, ⟨hs4, hq4, hs5, hq5⟩, ⟨by dsimp only; omega, by dsimp only; omega⟩, hl2⟩
  match cs, hl with
  | [c0, c1, c2, c3, c4, c5, c6, c7], _ =>
    simp at h0 h2 h3 h6 hs1 hq1
    simp [Lab.cells] at hl1
    simp [MTh.cells, h0, h2, h3, h6, hs1, hq1, hl1]
theorem U4 (hl : laidOutB P = true) {W W' : World} (hb : Below W.heap.size W W') : ∀ (ts : List TypeId) (vs : List Value) (ds : List (DataW H)) (ps : List MemPlace), ts.all (fun t => P.readableRec t && decide (t < P.types.size)) = true →
    DataW.TrodAll enc P W 0 (fun _ => true) true ts vs ds ps → (∀ y ∈ ps, y.block < W.heap.size) → DataW.TrodAll enc P W' 0 (fun b => decide (b < W.heap.size)) true ts vs ds ps
  | [], _, _, _, _, h, _ => by
    obtain ⟨rfl, rfl, rfl⟩ := trodAll_nil h
    exact rfl
  | t :: ts, _, _, _, ht, h, hlt => by
    obtain ⟨v, vs, d, ds, p, q, rfl, rfl, rfl, h1, h2⟩ := trodAll_cons h
    simp only [List.all_cons, Bool.and_eq_true, decide_eq_true_eq] at ht
    exact ⟨p, q, Below.trod hl ht.1.1 ht.1.2 h1 hb fun y hy => hlt y (List.mem_append_left _ hy), U4 hl hb ts vs ds q ht.2 h2 fun y hy => hlt y (List.mem_append_right _ hy), rfl⟩
theorem Be {f : Func} {s : ChangeSpec} {apart handsOn : Bool} {W W' : World} {args : Array Value} {ds gs : List (DataW H)} {before pa : List MemPlace} {tb : TypeId} (hl : laidOutB P = true)
    (hr : f.params.toList.all (fun t => P.readableRec t && decide (t < P.types.size)) = true) (hW : DataW.Whole enc P f.params.toList s.vars apart W args.toList ds gs before)
    (hA : DataW.TrodAll enc P W 0 (fun _ => true) true f.params.toList args.toList ds pa) (hlt : ∀ y ∈ pa, y.block < W.heap.size) (hs : s.fn H (ds ++ gs) = { results := [.lit (.bool true)], args := ds }) (hv : s.vars = [])
    (hres : f.resultTypes = #[tb]) (htb : P.underlying tb = some .bool) (hb : Below W.heap.size W W') : s.post enc P f apart true handsOn false W args (.bool true) W' := by
  refine ⟨ds, gs, before, [], pa, [], hW, ?_, ?_, ?_, hb.frame _, fun h => by cases h⟩
  · rw [hs, hres]
    exact trodAll_mk1 (shut_bool htb _)
  · rw [hs]
    exact U4 hl hb _ _ _ _ hr hA hlt
  · rw [hs, hv]
    rfl
end
end Go.Dw
end
section
namespace Go.Dw.J
open Go.RowKit Go.Dw Go.Proofs
open Go.Conc (G solo)
set_option linter.unusedSectionVars false
set_option linter.unusedSimpArgs false
set_option linter.unusedVariables false
theorem R4 {o : Obj} (h : seeO o ≠ pz) : seeO o = o := by cases o <;> first | rfl | exact absurd rfl h
theorem R2 {W : World} : @Keep ⟨W.heap.size, W⟩ (seeAll W) W := by
  refine ⟨Nat.le_refl _, fun b hb => ?_⟩
  have hb' : b < W.heap.size := hb
  have e : W.heap[b]? = some W.heap[b] := Array.getElem?_eq_getElem hb'
  by_cases h : seeO W.heap[b] = pz
  · refine .inr ⟨fun hs => hs.2 ?_, rfl⟩
    rw [J0, e, Option.map_some, h]
  · refine .inl ⟨⟨by simpa [seeAll] using hb', fun e2 => h ?_⟩, ?_⟩
    · rw [J0, e, Option.map_some] at e2
      exact Option.some.inj e2
    · rw [J0, e, Option.map_some, R4 h]
theorem Gj {W : World} {a : Option Addr} {sz : Nat} {xs : List (List Value)} (h : SlAt W a sz xs) : SlAt (seeAll W) a sz xs := fun k x hk => by
  obtain ⟨b, o, ha, hr⟩ := h k x hk
  exact ⟨b, o, ha, fun j v hj => R1 (hr j v hj)⟩
theorem Ca {W : World} {m : MTh} (h : ThAt W m) : ThAt (seeAll W) m := ⟨Gj h.1, Gj h.2.1, h.2.2⟩
theorem seeAll_tab {W : World} {a : Option Addr} {ms : List MTh} (h : TabAt W a ms) : TabAt (seeAll W) a ms := ⟨Gj h.1, fun m hm => Ca (h.2 m hm)⟩
theorem law_good {k : FuncId} {fn : Func} {c : Code} {n : Nat} {args : Array Value} {W : World} (hf : Try.prog.funcs[k]? = some fn) (hb : fn.body = some c) (hn : fn.ntmps = n) (hs : Nat.ble args.size n = true) (hin : Try.prog.inits.idxOf? k = none)
    (law : ∀ [Comp] [ViewRule], ViewRule.base ≤ (seeAll W).heap.size → Wpf Try.prog n (endQ Try.prog fn (fun v w' => v = .bool true ∧ (seeAll W).grownBy w' none)) c (f0 args) (seeAll W)) :
    Runs Try.prog (fun v W' => v = .bool true ∧ Below W.heap.size W { W' with tape := W.tape }) (solo (G (Frame.enter Try.prog k args .normal) []) W) #[] := by
  letI : KeepD := ⟨W.heap.size, W⟩
  have hsz : (seeAll W).heap.size = W.heap.size := by simp [seeAll]
  refine Tk R2 (E4 OKV okv hf hb hn hs hin (R := fun v w' => v = .bool true ∧ (seeAll W).grownBy w' none) (fun v A' w ⟨hv, hg⟩ hsee hk => ⟨hv, ?_⟩) (@law (comp0 OKV) viewRule (Nat.le_of_eq hsz.symm)))
  refine ⟨hsee.os.symm.trans hg.os, rfl, hsee.output.symm.trans hg.output, hk.1, fun b hb' => ?_⟩
  show w.heap[b]? = W.heap[b]?
  have e : W.heap[b]? = some W.heap[b] := Array.getElem?_eq_getElem hb'
  rcases hk.2 b hb' with ⟨h1, h2⟩ | ⟨_, h2⟩
  · have h3 := hg.block b (by rw [hsz]; exact hb') (by simp)
    rw [J0, e, Option.map_some] at h3
    have h4 : seeO W.heap[b] ≠ pz := fun h => h1.2 (by rw [h3, h])
    rw [← h2, h3, R4 h4, e]
  · exact h2
end Go.Dw.J
namespace Go.Dw
theorem Bd {H : Type} {enc : TypeId × Value → H} {P : Program} {f : Func} {s : ChangeSpec} {apart fresh handsOn : Bool} {W W' : World} {args : Array Value} {v : Value} {tp : Tape} (h : s.post enc P f apart fresh handsOn false W args v { W' with tape := tp }) : s.post enc P f apart fresh handsOn false W args v W' := by
  obtain ⟨ds, gs, before, pr, pa, pv, h1, h2, h3, h4, h5, h6⟩ := h
  exact ⟨ds, gs, before, pr, pa, pv, h1, DataW.TrodAll.of_heap (w' := W') (by rfl) h2, DataW.TrodAll.of_heap (w' := W') (by rfl) h3, DataW.TrodVars.of_heap (w' := W') (by rfl) h4, h5, fun h => by cases h⟩
end Go.Dw
end
