/-
  The plain law of a call that is done: more rows.
-/
import Derived.Test.YtemimomfjapgiaaDoorG2
namespace Go.Dw
set_option linter.unusedVariables false
set_option linter.unusedSimpArgs false
section
variable {ts : List Th} {q : Cl}
theorem ans_zero (hp : callPoss ts q = true) (h : 0 ≤ doAns ts q) : check1 ts q = 0 := by
  have hr := check_rng ts q
  by_cases h0 : check1 ts q < 0
  · have := (do_refused h0).1
    omega
  · omega
/-- What a call that is not refused finds. -/
theorem found (hp : callPoss ts q = true) (h0 : check1 ts q = 0) (h3 : ¬ q.kind = 3) : (1 ≤ (slotAt ts q.run q.a).th ∧ (slotAt ts q.run q.a).th ≤ (ts.length : Int)) ∧ kindFor q.kind (thAt ts (slotAt ts q.run q.a).th).kind = true ∧ (need0 q.kind = true → sees ts q.run (slotAt ts q.run q.a).th = true) := by
  have e := chkAll_yes hp
  have h := chk_parts (ts := ts) (q := q) (by omega) h3
  exact ⟨h.1, h.2.1, (chk_flow (ts := ts) (q := q) (by omega) (by omega) h3).1⟩
theorem found_far (hp : callPoss ts q = true) (h0 : check1 ts q = 0) (h3 : ¬ q.kind = 3) : FarOk ts q (slotAt ts q.run q.a) := by
  have h := found hp h0 h3
  obtain ⟨hT, hc, hr⟩ := callPoss_parts hp
  exact ⟨hT, hc, hr, h.1, h.2.1, h3⟩
theorem at_ne (hp : callPoss ts q = true) {j : Int} (hj : 1 ≤ j) (hne : ¬ j = q.run) : thAt (doCall ts q).1 j = thAt (doPre ts q) j := by
  rw [doCall_1]
  unfold setNum
  rw [thAt_set (run_in hp) j hj, if_neg hne]
theorem at_run (hp : callPoss ts q = true) : thAt (doCall ts q).1 q.run = { thAt (doPre ts q) q.run with num := doAns ts q } := by
  rw [doCall_1]
  unfold setNum
  rw [thAt_set (run_in hp) q.run (run_in hp).1, if_pos rfl]
theorem th_ne (hp : callPoss ts q = true) (h0 : check1 ts q = 0) (h3 : ¬ q.kind = 3) : ¬ (slotAt ts q.run q.a).th = q.run := fun e => by
  have h := found hp h0 h3
  have hr := (kindAt_th (callPoss_parts hp).2.2).2
  have hc := callOk_iff (callPoss_parts hp).2.1
  have hk := kindFor_k h.2.1 hc.1
  rw [e, hr] at hk
  omega
/-- What is written is there. -/
theorem do_write (hp : callPoss ts q = true) (h2 : q.kind = 2) (ha : 0 ≤ doAns ts q) : doAns ts q = 0 ∧ thAt (doCall ts q).1 (slotAt ts q.run q.a).th = if live ts (slotAt ts q.run q.a) = true then { thAt ts (slotAt ts q.run q.a).th with num := q.n } else thAt ts (slotAt ts q.run q.a).th := by
  have h3 : ¬ q.kind = 3 := by omega
  have h0 := ans_zero hp ha
  have hF := found_far hp h0 h3
  rw [at_ne hp hF.th.1 (th_ne hp h0 h3)]
  cases hl : live ts (slotAt ts q.run q.a) with
  | false => rw [(ans_dead h0 h3 hl).1, (ans_dead h0 h3 hl).2]; exact ⟨rfl, rfl⟩
  | true =>
    have h := ans_far rfl h0 h3 hl hF
    have hf : far ts q (slotAt ts q.run q.a) = (setNum ts (slotAt ts q.run q.a).th q.n, 0) := by
      unfold far
      rw [if_neg (by omega), if_pos h2]
    rw [hf] at h
    rw [h.1, h.2]
    refine ⟨by split <;> rfl, ?_⟩
    show thAt (setTh ts _ _) _ = _
    rw [thAt_set hF.th _ hF.th.1, if_pos rfl, if_pos rfl]
/-- What is fetched is what the node has. -/
theorem do_fetch (hp : callPoss ts q = true) (h4 : q.kind = 4) (ha : 0 ≤ doAns ts q) : doAns ts q = 0 ∧ (1 ≤ (slotAt ts q.run q.a).th ∧ (slotAt ts q.run q.a).th ≤ (ts.length : Int)) ∧ (thAt ts (slotAt ts q.run q.a).th).kind = 2 ∧ thAt (doCall ts q).1 (slotAt ts q.run q.a).th = thAt ts (slotAt ts q.run q.a).th ∧ slotAt (doCall ts q).1 q.run q.b = fetched (slotAt ts (slotAt ts q.run q.a).th (q.n % 4)) (slotAt ts q.run q.a).wk := by
  have h3 : ¬ q.kind = 3 := by omega
  have h0 := ans_zero hp ha
  have hF := found_far hp h0 h3
  have hfd := found hp h0 h3
  have hc := callOk_iff (callPoss_parts hp).2.1
  have hrun := kindAt_th (callPoss_parts hp).2.2
  have e := chkAll_yes hp
  have hs := hfd.2.2 (by unfold need0; rw [if_pos (Or.inr h4)])
  have hl := chk_zero (ts := ts) (q := q) (by omega) h3 hs
  have hne := th_ne hp h0 h3
  have h := ans_far rfl h0 h3 hl hF
  have hf : far ts q (slotAt ts q.run q.a) = (putSl ts q.run q.b (fetched (slotAt ts (slotAt ts q.run q.a).th (q.n % 4)) (slotAt ts q.run q.a).wk), 0) := by
    unfold far
    rw [if_neg (by omega), if_neg (by omega), if_pos h4]
  rw [hf] at h
  refine ⟨by rw [h.1]; split <;> rfl, hF.th, (kindFor_k hfd.2.1 hc.1).2.2.1 h4, ?_, ?_⟩
  · rw [at_ne hp hF.th.1 hne, h.2]
    show thAt (setTh ts _ _) _ = _
    rw [thAt_set hrun.1 _ hF.th.1, if_neg hne]
  · have h4s := th_four (row_at (callPoss_parts hp).1 hrun.1).1 (Or.inr hrun.2)
    unfold slotAt
    rw [at_run hp, h.2]
    show rAt (thAt (setTh ts _ _) q.run).slots q.b.toNat = _
    rw [thAt_set hrun.1 _ hrun.1.1, if_pos rfl]
    show rAt ((thAt ts q.run).slots.set q.b.toNat _) q.b.toNat = _
    unfold rAt
    rw [List.getD_eq_getElem?_getD, List.getElem?_set, if_pos rfl, if_pos (by omega)]
    rfl
theorem fetched_wr {r : Rt} (h : rightOk r = true) : (fetched r true).wr = false := by
  unfold fetched l2Less
  rw [if_pos rfl]
  split
  · rename_i h0
    rw [right_z h (decide_eq_true h0)]
    rfl
  · simp
theorem fetch_less {r : Rt} (h : rightOk r = true) : fetched r true = rightLess r true false false := by
  unfold fetched rightLess
  rw [if_pos rfl, if_pos h]
theorem fetched_f {r : Rt} : fetched r false = r := by
  unfold fetched
  rw [if_neg Bool.false_ne_true]
/-- Who may not know is answered 0. -/
theorem blind_same (hp : callPoss ts q = true) (h3 : ¬ q.kind = 3) (hs : chkSees ts q.run (slotAt ts q.run q.a).th = false) : doAns ts q = -1 ∨ doAns ts q = -2 ∨ doAns ts q = 0 := by
  have hr := check_rng ts q
  have e := chkAll_yes hp
  obtain ⟨hT, hc, hrun⟩ := callPoss_parts hp
  by_cases h1 : check1 ts q = -1
  · exact Or.inl ((do_refused (by omega)).1.trans h1)
  by_cases h2 : check1 ts q = -2
  · exact Or.inr (Or.inl ((do_refused (by omega)).1.trans h2))
  have hp1 := chk_parts (ts := ts) (q := q) (by omega) h3
  rw [chkSees_in hT hrun hp1.1] at hs
  by_cases h4 : check1 ts q = -3
  · have := (chk_three (ts := ts) (q := q) (by omega) h3).1
    rw [hs] at this
    cases this
  have h0 : check1 ts q = 0 := by omega
  refine Or.inr (Or.inr ?_)
  cases hl : live ts (slotAt ts q.run q.a) with
  | false => exact (ans_dead h0 h3 hl).1
  | true =>
    rw [(ans_far rfl h0 h3 hl (found_far hp h0 h3)).1, if_neg (by rw [hs]; exact Bool.false_ne_true)]
/-- What was sent first is taken first. -/
theorem do_take (hp : callPoss ts q = true) (h7 : q.kind = 7) (h0 : check1 ts q = 0) : ((thAt ts (slotAt ts q.run q.a).th).queue.length = 0 → doAns ts q = -4 ∧ (thAt (doCall ts q).1 (slotAt ts q.run q.a).th).queue = []) ∧ (¬ (thAt ts (slotAt ts q.run q.a).th).queue.length = 0 → doAns ts q = iAt (thAt ts (slotAt ts q.run q.a).th).queue 0 ∧ (thAt (doCall ts q).1 (slotAt ts q.run q.a).th).queue = (thAt ts (slotAt ts q.run q.a).th).queue.drop 1) := by
  have h3 : ¬ q.kind = 3 := by omega
  have hF := found_far hp h0 h3
  have hfd := found hp h0 h3
  have e := chkAll_yes hp
  have hs := hfd.2.2 (by unfold need0; rw [if_neg (by omega), if_pos h7])
  have hl := chk_zero (ts := ts) (q := q) (by omega) h3 hs
  have h := ans_far rfl h0 h3 hl hF
  rw [if_pos hs] at h
  have hq := (pipe_q (row_at hF.tab hF.th).1 ((kindFor_k hfd.2.1 (callOk_iff hF.call).1).2.2.2.2.2.1 h7)).2
  rw [at_ne hp hF.th.1 (th_ne hp h0 h3)]
  refine ⟨fun he => ?_, fun he => ?_⟩
  · have hf : far ts q (slotAt ts q.run q.a) = (ts, -4) := by
      unfold far
      rw [if_neg (by omega), if_neg (by omega), if_neg (by omega), if_neg (by omega), if_neg (by omega), if_pos h7, if_pos he]
    rw [hf] at h
    rw [h.1, h.2]
    exact ⟨rfl, List.length_eq_zero_iff.1 he⟩
  · have hf : far ts q (slotAt ts q.run q.a) = (setQ ts (slotAt ts q.run q.a).th ((thAt ts (slotAt ts q.run q.a).th).queue.drop 1), iAt (thAt ts (slotAt ts q.run q.a).th).queue 0) := by
      unfold far
      rw [if_neg (by omega), if_neg (by omega), if_neg (by omega), if_neg (by omega), if_neg (by omega), if_pos h7, if_neg he]
    rw [hf] at h
    rw [h.1, h.2]
    refine ⟨rfl, ?_⟩
    show (thAt (setTh ts _ _) _).queue = _
    rw [thAt_set hF.th _ hF.th.1, if_pos rfl]
/-- What is stored is the runner's. -/
theorem do_store (hp : callPoss ts q = true) (h5 : q.kind = 5) (ha : 0 ≤ doAns ts q) : doAns ts q = 0 ∧ (1 ≤ (slotAt ts q.run q.a).th ∧ (slotAt ts q.run q.a).th ≤ (ts.length : Int)) ∧ (thAt ts (slotAt ts q.run q.a).th).kind = 2 ∧ (live ts (slotAt ts q.run q.a) = false → thAt (doCall ts q).1 (slotAt ts q.run q.a).th = thAt ts (slotAt ts q.run q.a).th) ∧ (live ts (slotAt ts q.run q.a) = true → (thAt (doCall ts q).1 (slotAt ts q.run q.a).th).slots = (thAt ts (slotAt ts q.run q.a).th).slots.set (q.n % 4).toNat (slotAt ts q.run q.b)) ∧ (thAt (doCall ts q).1 q.run).slots = (thAt ts q.run).slots := by
  have h3 : ¬ q.kind = 3 := by omega
  have h0 := ans_zero hp ha
  have hF := found_far hp h0 h3
  have hfd := found hp h0 h3
  have hrun := kindAt_th hF.run
  have hne := th_ne hp h0 h3
  have hk := (kindFor_k hfd.2.1 (callOk_iff hF.call).1).2.2.2.1 h5
  rw [at_ne hp hF.th.1 hne, at_run hp]
  cases hl : live ts (slotAt ts q.run q.a) with
  | false => rw [(ans_dead h0 h3 hl).1, (ans_dead h0 h3 hl).2]; exact ⟨rfl, hF.th, hk, fun _ => rfl, (fun h => absurd h (by decide)), rfl⟩
  | true =>
    have h := ans_far rfl h0 h3 hl hF
    have hf : far ts q (slotAt ts q.run q.a) = (putSl ts (slotAt ts q.run q.a).th (q.n % 4) (slotAt ts q.run q.b), 0) := by
      unfold far
      rw [if_neg (by omega), if_neg (by omega), if_neg (by omega), if_pos h5]
    rw [hf] at h
    rw [h.1, h.2]
    refine ⟨by split <;> rfl, hF.th, hk, (fun h => absurd h (by decide)), fun _ => ?_, ?_⟩
    · show (thAt (setTh ts _ _) _).slots = _
      rw [thAt_set hF.th _ hF.th.1, if_pos rfl]
    · show (thAt (setTh ts _ _) _).slots = _
      rw [thAt_set hF.th _ hrun.1.1, if_neg (Ne.symm hne)]
/-! a table where one number is another -/
theorem thAt_num (k n j : Int) : thAt (setNum ts k n) j = thAt ts j ∨ thAt (setNum ts k n) j = { thAt ts j with num := n } := by
  unfold setNum setTh thAt
  rw [List.getD_eq_getElem?_getD, List.getD_eq_getElem?_getD, List.getD_eq_getElem?_getD, List.getElem?_set]
  split
  · rename_i e
    split
    · right
      rw [e]
      rfl
    · left
      rw [List.getElem?_eq_none (by omega)]
  · exact Or.inl rfl
theorem num_lab (k n j : Int) : (thAt (setNum ts k n) j).lab = (thAt ts j).lab := by rcases thAt_num (ts := ts) k n j with h | h <;> rw [h]
theorem num_kind (k n j : Int) : (thAt (setNum ts k n) j).kind = (thAt ts j).kind := by rcases thAt_num (ts := ts) k n j with h | h <;> rw [h]
theorem num_ve (k n j : Int) : (thAt (setNum ts k n) j).ve = (thAt ts j).ve := by rcases thAt_num (ts := ts) k n j with h | h <;> rw [h]
theorem num_slots (k n j : Int) : (thAt (setNum ts k n) j).slots = (thAt ts j).slots := by rcases thAt_num (ts := ts) k n j with h | h <;> rw [h]
theorem num_slotAt (k n i j : Int) : slotAt (setNum ts k n) i j = slotAt ts i j := by unfold slotAt; rw [num_slots]
theorem num_sees (k n i j : Int) : sees (setNum ts k n) i j = sees ts i j := by unfold sees; rw [num_lab, num_lab]
theorem num_touches (k n i j : Int) : touches (setNum ts k n) i j = touches ts i j := by unfold touches; rw [num_lab, num_lab]
theorem num_len (k n : Int) : (setNum ts k n).length = ts.length := setTh_len
theorem num_live (k n : Int) (r : Rt) : live (setNum ts k n) r = live ts r := by unfold live; rw [num_len, num_ve]
theorem num_check (k n : Int) : check1 (setNum ts k n) q = check1 ts q := by
  unfold check1 chk1 chk2 chk3
  simp only [num_slotAt, num_kind, num_sees, num_touches, num_live]
theorem num_poss (hp : callPoss ts q = true) : callPoss (doCall ts q).1 q = true := by
  obtain ⟨hT, hc, hr⟩ := callPoss_parts hp
  have h := doCall_ok hp
  have hr := kindAt_th hr
  unfold callPoss
  rw [h.1, hc, kindAt_of (by rw [h.2.1]; exact hr.1) ((h.2.2 _ hr.1.1).trans hr.2)]
  rfl
/-- What is read is there still. -/
theorem read_twice (hp : callPoss ts q = true) (h1 : q.kind = 1) : callDo (callDo ts q).1 q = callDo ts q := by
  have h3 : ¬ q.kind = 3 := by omega
  rw [callDo_yes hp, callDo_yes (num_poss hp)]
  have pre : ∀ us : List Th, doPre us q = us := fun us => by
    unfold doPre
    rw [if_neg h3]
    split
    · rfl
    split
    · unfold far; rw [if_pos h1]
    · rfl
  have hrun := (kindAt_th (callPoss_parts hp).2.2).1
  have e : (doCall ts q).1 = setNum ts q.run (doAns ts q) := by rw [doCall_1, pre]
  have ha : doAns (doCall ts q).1 q = doAns ts q := by
    rw [e]
    unfold doAns told
    simp only [num_check, num_slotAt, num_live, if_neg h3]
    split
    · rfl
    rename_i h0
    split
    · rename_i hl
      have hF := farOk_of hp h0 h3 hl
      have hne : ¬ (slotAt ts q.run q.a).th = q.run := fun e => by
        have hr := (kindAt_th hF.run).2
        have hk := (kindFor_k hF.kind (callOk_iff hF.call).1).1 h1
        rw [e, hr] at hk
        omega
      have hf : ∀ us : List Th, far us q (slotAt ts q.run q.a) = (us, (thAt us (slotAt ts q.run q.a).th).num) := fun us => by unfold far; rw [if_pos h1]
      rw [hf, hf]
      show (if sees (setNum ts q.run _) _ _ = true then (thAt (setNum ts q.run _) (slotAt ts q.run q.a).th).num else 0) = _
      rw [num_sees]
      unfold setNum
      rw [thAt_set hrun _ hF.th.1, if_neg hne]
    · rfl
  have e2 : (doCall (doCall ts q).1 q).1 = (doCall ts q).1 := by
    rw [doCall_1, pre, ha, e]
    unfold setNum
    rw [setTh_set]
    congr 1
    rw [thAt_set hrun _ hrun.1, if_pos rfl]
  have e3 : (doCall (doCall ts q).1 q).2 = (doCall ts q).2 := by rw [doCall_2, ha, ← doCall_2]
  exact Prod.ext e2 e3
/-- A number that is kept is one that was written. -/
def Kept (n : Int) (a b : Th) : Prop := (a.kind = 1 → b.num = a.num ∨ b.num = 0 ∨ b.num = n ∨ b.num = n % 2) ∧ ∀ v ∈ b.queue, v = n ∨ v ∈ a.queue
theorem Kept.refl (n : Int) (a : Th) : Kept n a a := ⟨fun _ => Or.inl rfl, fun _ h => Or.inr h⟩
theorem set_kept {us : List Th} {n k : Int} {t : Th} (hk : 1 ≤ k ∧ k ≤ (us.length : Int)) (h : Kept n (thAt us k) t) (j : Int) (hj : 1 ≤ j) : Kept n (thAt us j) (thAt (setTh us k t) j) := by
  rw [thAt_set hk j hj]
  split
  · rename_i e; rw [e]; exact h
  · exact Kept.refl _ _
theorem far_kept {r : Rt} (h : FarOk ts q r) (j : Int) (hj : 1 ≤ j) : Kept q.n (thAt ts j) (thAt (far ts q r).1 j) := by
  have hrun := (kindAt_th h.run).1
  have hc := callOk_iff h.call
  have hn := h.copy
  unfold far
  split
  · exact Kept.refl _ _
  split
  · refine set_kept h.th ?_ j hj; exact ⟨fun _ => Or.inr (Or.inr (Or.inl rfl)), fun _ h => Or.inr h⟩
  split
  · refine set_kept hrun ?_ j hj; exact ⟨fun _ => Or.inl rfl, fun _ h => Or.inr h⟩
  split
  · refine set_kept h.th ?_ j hj; exact ⟨fun _ => Or.inl rfl, fun _ h => Or.inr h⟩
  split
  · split
    · refine set_kept h.th ?_ j hj
      refine ⟨fun _ => Or.inl rfl, fun v hv => ?_⟩
      change v ∈ (thAt ts r.th).queue ++ [q.n] at hv
      rcases List.mem_append.1 hv with h1 | h1
      · exact Or.inr h1
      · exact Or.inl (List.mem_singleton.1 h1)
    · exact Kept.refl _ _
  split
  · split
    · exact Kept.refl _ _
    · refine set_kept h.th ?_ j hj; exact ⟨fun _ => Or.inl rfl, fun _ h => Or.inr (List.mem_of_mem_drop h)⟩
  split
  · split
    · refine set_kept h.th ?_ j hj
      refine ⟨fun _ => Or.inr (Or.inl rfl), fun v hv => ?_⟩
      unfold renewed newTh at hv
      cases hv
    · exact Kept.refl _ _
  · rename_i e1 e2 e4 e5 e6 e7 e8
    have h5 := (kindFor_k h.kind hc.1).2.2.2.2.2.2.2 (by omega)
    have hg := kindAt_th (gate_to h.tab h.th h5)
    have h1 := set_kept (n := q.n) (t := { thAt ts (thAt ts r.th).to with num := q.n % 2 }) hg.1 ⟨fun _ => Or.inr (Or.inr (Or.inr rfl)), fun _ h => Or.inr h⟩ j hj
    have hth : 1 ≤ r.th ∧ r.th ≤ ((setNum ts (thAt ts r.th).to (q.n % 2)).length : Int) := by unfold setNum; rw [setTh_len]; exact h.th
    show Kept q.n (thAt ts j) (thAt (setTh (setNum ts (thAt ts r.th).to (q.n % 2)) r.th _) j)
    rw [thAt_set hth j hj]
    split
    · rename_i e; rw [e]; exact ⟨fun hk => by rw [h5] at hk; exact absurd hk (by decide), fun _ h => Or.inr h⟩
    · exact h1
theorem number_kept (hp : callPoss ts q = true) {j : Int} (hj : 1 ≤ j) : Kept q.n (thAt ts j) (thAt (doCall ts q).1 j) := by
  obtain ⟨hT, hc, hr⟩ := callPoss_parts hp
  have hrun := kindAt_th hr
  have hpre : Kept q.n (thAt ts j) (thAt (doPre ts q) j) := by
    unfold doPre
    split
    · exact Kept.refl _ _
    rename_i h0
    split
    · refine set_kept hrun.1 ?_ j hj; exact ⟨fun _ => Or.inl rfl, fun _ h => Or.inr h⟩
    rename_i h3
    split
    · rename_i hl
      exact far_kept (farOk_of hp h0 h3 hl) j hj
    · exact Kept.refl _ _
  by_cases e : j = q.run
  · subst e
    rw [at_run hp]
    exact ⟨fun hk => by rw [hrun.2] at hk; exact absurd hk (by decide), hpre.2⟩
  · rw [at_ne hp hj e]
    exact hpre
theorem iAt_mem {l : List Int} {v : Int} (h : v ∈ l) : ∃ i : Nat, i < l.length ∧ iAt l i = v := by
  obtain ⟨i, hi⟩ := List.mem_iff_getElem?.1 h
  refine ⟨i, (List.getElem?_eq_some_iff.1 hi).1, ?_⟩
  unfold iAt
  rw [List.getD_eq_getElem?_getD, hi]
  rfl
theorem at_mem {l : List Int} {i : Nat} (h : i < l.length) : iAt l i ∈ l := List.mem_of_getElem? (iAt_get h)
theorem kept_num {n : Int} {a b : Th} (h : Kept n a b) (hk : b.kind = a.kind) (hb : (((((decide (b.kind = 1)) && (!(decide (b.num = a.num)))) && (!(decide (b.num = 0)))) && (!(decide (b.num = n)))) && (!(decide (b.num = n % 2)))) = true) : False := by
  simp only [Bool.and_eq_true, Bool.not_eq_true', decide_eq_true_eq, decide_eq_false_iff_not] at hb
  rcases h.1 (hk ▸ hb.1.1.1.1) with e | e | e | e
  · exact hb.1.1.1.2 e
  · exact hb.1.1.2 e
  · exact hb.1.2 e
  · exact hb.2 e
theorem kept_q {n : Int} {a b : Th} {j : Nat} (h : Kept n a b) (hj : j < b.queue.length) (h1 : ¬ iAt b.queue j = n) (h2 : ∀ i : Nat, i < a.queue.length → ¬ iAt a.queue i = iAt b.queue j) : False := by
  rcases h.2 _ (at_mem hj) with e | e
  · exact h1 e
  · obtain ⟨i, hi, he⟩ := iAt_mem e
    exact h2 i hi he
theorem seek_step {P : Prop} {l : List Int} {v : Int} {m : Nat} (h : P ∧ ∀ i : Nat, i < m → ¬ iAt l i = v) (hm : ¬ iAt l m = v) : P ∧ ∀ i : Nat, i < m + 1 → ¬ iAt l i = v :=
  ⟨h.1, fun i hi => by
    rcases Nat.lt_succ_iff_lt_or_eq.1 hi with h1 | h1
    · exact h.2 i h1
    · rw [h1]; exact hm⟩
/-! as the walk names it -/
section
variable {ms xs : List MTh}
theorem do_2 (hp : callPoss (tabT ms) q = true) : (callDo (tabT ms) q).2 = doAns (tabT ms) q := by rw [callDo_yes hp, doCall_2]
theorem at_m (ht : tabT xs = (callDo (tabT ms) q).1) (hp : callPoss (tabT ms) q = true) (k : Int) : (mAt xs (k - 1).toNat).t = thAt (doCall (tabT ms) q).1 k := by rw [mAt_th, ht, callDo_yes hp]
theorem four_m (ht : tabT xs = (callDo (tabT ms) q).1) (hp : callPoss (tabT ms) q = true) : (mAt xs (q.run - 1).toNat).t.slots.length = 4 := by
  have h := num_poss hp
  have h2 := (callPoss_parts h)
  rw [← callDo_yes hp, ← ht] at h2
  exact run_slots h2.1 h2.2.2
theorem node_four (hT : tableOk (tabT ms) = true) {k : Int} (h : 1 ≤ k ∧ k ≤ (ms.length : Int)) (hk : (mAt ms (k - 1).toNat).t.kind = 2) : (mAt ms (k - 1).toNat).t.slots.length = 4 := th_four (tab_thing hT (by omega)) (Or.inl hk)
theorem live_tab (hp : callPoss (tabT ms) q = true) : tabLive (tabT ms) (rAt (mAt ms (q.run - 1).toNat).t.slots q.a.toNat) = live (tabT ms) (slotAt (tabT ms) q.run q.a) := by
  obtain ⟨hT, hc, hr⟩ := callPoss_parts hp
  rw [slotAt_m, tabLive_in hT hr]
theorem write_m (ht : tabT xs = (callDo (tabT ms) q).1) (hp : callPoss (tabT ms) q = true) (h : ((!decide (q.kind = 2)) || decide ((callDo (tabT ms) q).2 < 0)) = false) :
    (1 ≤ (rAt (mAt ms (q.run - 1).toNat).t.slots q.a.toNat).th ∧ (rAt (mAt ms (q.run - 1).toNat).t.slots q.a.toNat).th ≤ (ms.length : Int)) ∧ (callDo (tabT ms) q).2 = 0 ∧ (mAt xs ((rAt (mAt ms (q.run - 1).toNat).t.slots q.a.toNat).th - 1).toNat).t = if tabLive (tabT ms) (rAt (mAt ms (q.run - 1).toNat).t.slots q.a.toNat) = true then { (mAt ms ((rAt (mAt ms (q.run - 1).toNat).t.slots q.a.toNat).th - 1).toNat).t with num := q.n } else (mAt ms ((rAt (mAt ms (q.run - 1).toNat).t.slots q.a.toNat).th - 1).toNat).t := by
  simp only [Bool.or_eq_false_iff, Bool.not_eq_false', decide_eq_true_eq, decide_eq_false_iff_not] at h
  have ha : 0 ≤ doAns (tabT ms) q := by rw [← do_2 hp]; omega
  have hw := do_write hp h.1 ha
  have hf := found hp (ans_zero hp ha) (by omega)
  rw [tabT_len] at hf
  rw [live_tab hp, slotAt_m, do_2 hp, at_m ht hp, mAt_th]
  exact ⟨hf.1, hw⟩
theorem fetch_m (ht : tabT xs = (callDo (tabT ms) q).1) (hp : callPoss (tabT ms) q = true) (h : ((!decide (q.kind = 4)) || decide ((callDo (tabT ms) q).2 < 0)) = false) :
    (1 ≤ (rAt (mAt ms (q.run - 1).toNat).t.slots q.a.toNat).th ∧ (rAt (mAt ms (q.run - 1).toNat).t.slots q.a.toNat).th ≤ (ms.length : Int)) ∧ (callDo (tabT ms) q).2 = 0 ∧ (mAt ms ((rAt (mAt ms (q.run - 1).toNat).t.slots q.a.toNat).th - 1).toNat).t.slots.length = 4 ∧ (mAt xs ((rAt (mAt ms (q.run - 1).toNat).t.slots q.a.toNat).th - 1).toNat).t = (mAt ms ((rAt (mAt ms (q.run - 1).toNat).t.slots q.a.toNat).th - 1).toNat).t ∧ rAt (mAt xs (q.run - 1).toNat).t.slots q.b.toNat = fetched (rAt (mAt ms ((rAt (mAt ms (q.run - 1).toNat).t.slots q.a.toNat).th - 1).toNat).t.slots (q.n % 4).toNat) (rAt (mAt ms (q.run - 1).toNat).t.slots q.a.toNat).wk ∧ rightOk (rAt (mAt ms ((rAt (mAt ms (q.run - 1).toNat).t.slots q.a.toNat).th - 1).toNat).t.slots (q.n % 4).toNat) = true := by
  simp only [Bool.or_eq_false_iff, Bool.not_eq_false', decide_eq_true_eq, decide_eq_false_iff_not] at h
  have ha : 0 ≤ doAns (tabT ms) q := by rw [← do_2 hp]; omega
  obtain ⟨h0, h1, hk, h2, h3⟩ := do_fetch hp h.1 ha
  have hT := (callPoss_parts hp).1
  have hok := slot_ok hT h1 (q.n % 4)
  rw [tabT_len] at h1
  rw [slotAt_m, do_2 hp, at_m ht hp]
  rw [← mAt_th ms (slotAt (tabT ms) q.run q.a).th] at hk h2
  rw [← slotAt_m (k := (slotAt (tabT ms) q.run q.a).th)] at h3 hok
  refine ⟨h1, h0, node_four hT h1 hk, h2, ?_, hok.1⟩
  rw [mAt_th, ht, callDo_yes hp]
  exact h3
theorem blind_m (hp : callPoss (tabT ms) q = true) (h : (((decide (q.kind = 3)) || (decide ((rAt (mAt ms (q.run - 1).toNat).t.slots q.a.toNat).th = 0))) || (chkSees (tabT ms) q.run (rAt (mAt ms (q.run - 1).toNat).t.slots q.a.toNat).th)) = false) : ((decide ((callDo (tabT ms) q).2 = -1) || decide ((callDo (tabT ms) q).2 = -2)) || decide ((callDo (tabT ms) q).2 = 0)) = true := by
  simp only [Bool.or_eq_false_iff, decide_eq_false_iff_not] at h
  rw [slotAt_m] at h
  rw [do_2 hp]
  rcases blind_same hp h.1.1 h.2 with e | e | e <;> rw [e] <;> rfl
theorem take_m (ht : tabT xs = (callDo (tabT ms) q).1) (hp : callPoss (tabT ms) q = true) (h : ((!decide (q.kind = 7)) || decide (chkAll (tabT ms) q < 0)) = false) :
    (1 ≤ (rAt (mAt ms (q.run - 1).toNat).t.slots q.a.toNat).th ∧ (rAt (mAt ms (q.run - 1).toNat).t.slots q.a.toNat).th ≤ (ms.length : Int)) ∧ ((mAt ms ((rAt (mAt ms (q.run - 1).toNat).t.slots q.a.toNat).th - 1).toNat).t.queue.length = 0 → (callDo (tabT ms) q).2 = -4 ∧ (mAt xs ((rAt (mAt ms (q.run - 1).toNat).t.slots q.a.toNat).th - 1).toNat).t.queue = []) ∧ (¬ (mAt ms ((rAt (mAt ms (q.run - 1).toNat).t.slots q.a.toNat).th - 1).toNat).t.queue.length = 0 → (callDo (tabT ms) q).2 = iAt (mAt ms ((rAt (mAt ms (q.run - 1).toNat).t.slots q.a.toNat).th - 1).toNat).t.queue 0 ∧ (mAt xs ((rAt (mAt ms (q.run - 1).toNat).t.slots q.a.toNat).th - 1).toNat).t.queue = (mAt ms ((rAt (mAt ms (q.run - 1).toNat).t.slots q.a.toNat).th - 1).toNat).t.queue.drop 1) := by
  simp only [Bool.or_eq_false_iff, Bool.not_eq_false', decide_eq_true_eq, decide_eq_false_iff_not] at h
  rw [chkAll_yes hp] at h
  have hr := check_rng (tabT ms) q
  have h0 : check1 (tabT ms) q = 0 := by omega
  have hf := found hp h0 (by omega)
  have hw := do_take hp h.1 h0
  rw [tabT_len] at hf
  rw [slotAt_m, do_2 hp, at_m ht hp, mAt_th]
  exact ⟨hf.1, hw⟩
theorem drop_at {l : List Int} {k : Nat} : iAt (l.drop 1) k = iAt l (k + 1) := by
  unfold iAt
  rw [List.getD_eq_getElem?_getD, List.getD_eq_getElem?_getD, List.getElem?_drop, Nat.add_comm]
theorem store_m (ht : tabT xs = (callDo (tabT ms) q).1) (hp : callPoss (tabT ms) q = true) (h : ((!decide (q.kind = 5)) || decide ((callDo (tabT ms) q).2 < 0)) = false) :
    (1 ≤ (rAt (mAt ms (q.run - 1).toNat).t.slots q.a.toNat).th ∧ (rAt (mAt ms (q.run - 1).toNat).t.slots q.a.toNat).th ≤ (ms.length : Int)) ∧ (callDo (tabT ms) q).2 = 0 ∧ (mAt ms ((rAt (mAt ms (q.run - 1).toNat).t.slots q.a.toNat).th - 1).toNat).t.slots.length = 4 ∧ (mAt xs ((rAt (mAt ms (q.run - 1).toNat).t.slots q.a.toNat).th - 1).toNat).t.slots.length = 4 ∧ (tabLive (tabT ms) (rAt (mAt ms (q.run - 1).toNat).t.slots q.a.toNat) = false → (mAt xs ((rAt (mAt ms (q.run - 1).toNat).t.slots q.a.toNat).th - 1).toNat).t = (mAt ms ((rAt (mAt ms (q.run - 1).toNat).t.slots q.a.toNat).th - 1).toNat).t) ∧ (tabLive (tabT ms) (rAt (mAt ms (q.run - 1).toNat).t.slots q.a.toNat) = true → (mAt xs ((rAt (mAt ms (q.run - 1).toNat).t.slots q.a.toNat).th - 1).toNat).t.slots = (mAt ms ((rAt (mAt ms (q.run - 1).toNat).t.slots q.a.toNat).th - 1).toNat).t.slots.set (q.n % 4).toNat (rAt (mAt ms (q.run - 1).toNat).t.slots q.b.toNat)) ∧ (mAt xs (q.run - 1).toNat).t.slots = (mAt ms (q.run - 1).toNat).t.slots := by
  simp only [Bool.or_eq_false_iff, Bool.not_eq_false', decide_eq_true_eq, decide_eq_false_iff_not] at h
  have ha : 0 ≤ doAns (tabT ms) q := by rw [← do_2 hp]; omega
  obtain ⟨h0, h1, hk, h2, h3, h4⟩ := do_store hp h.1 ha
  have hT := (callPoss_parts hp).1
  have hx := doCall_ok hp
  have hkx := hx.2.2 _ h1.1
  have h1x := h1
  rw [← hx.2.1] at h1x
  have h5 := th_four (row_at hx.1 h1x).1 (Or.inl (hkx.trans hk))
  rw [tabT_len] at h1
  rw [live_tab hp, slotAt_m (k := q.run) (j := q.b), slotAt_m, do_2 hp, at_m ht hp, at_m ht hp, mAt_th, mAt_th]
  refine ⟨h1, h0, ?_, h5, h2, h3, h4⟩
  rw [← mAt_th] at hk ⊢
  exact node_four hT h1 hk
theorem set_at {l : List Rt} {j k : Nat} {r : Rt} (hk : k < l.length) : rAt (l.set j r) k = if k = j then r else rAt l k := by
  unfold rAt
  rw [List.getD_eq_getElem?_getD, List.getD_eq_getElem?_getD, List.getElem?_set]
  split
  · rename_i e; subst e; rw [if_pos rfl, if_pos hk]; rfl
  · rename_i e; rw [if_neg (Ne.symm e)]
theorem twice_m (ht : tabT xs = (callDo (tabT ms) q).1) (hp : callPoss (tabT ms) q = true) (h1 : q.kind = 1) : callDo (tabT xs) q = callDo (tabT ms) q := by rw [ht]; exact read_twice hp h1
theorem kept_m (ht : tabT xs = (callDo (tabT ms) q).1) (hp : callPoss (tabT ms) q = true) (k : Nat) : Kept q.n (mAt ms k).t (mAt xs k).t := by
  rw [at_do ht hp, mAt_nat]
  exact number_kept hp (by omega)
end
end
end Go.Dw
