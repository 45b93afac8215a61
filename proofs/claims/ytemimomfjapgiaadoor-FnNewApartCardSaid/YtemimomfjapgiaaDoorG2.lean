/-
  The plain law of a call that is done: as the rows ask it.
-/
import Derived.Test.YtemimomfjapgiaaDoorG1
import Derived.Test.YtemimomfjapgiaaDoorTO
namespace Go.Dw
section
variable {ts : List Th} {q : Cl}
def doPre (ts : List Th) (q : Cl) : List Th :=
  if check1 ts q < 0 then ts else if q.kind = 3 then putSl ts q.run q.b (lessBits (slotAt ts q.run q.a) q.n) else if live ts (slotAt ts q.run q.a) = true then (far ts q (slotAt ts q.run q.a)).1 else ts
def doAns (ts : List Th) (q : Cl) : Int :=
  if check1 ts q < 0 then check1 ts q else if q.kind = 3 then check1 ts q else if live ts (slotAt ts q.run q.a) = true then told ts q (slotAt ts q.run q.a) else check1 ts q
theorem doCall_eq : doCall ts q = (setNum (doPre ts q) q.run (doAns ts q), doAns ts q) := by
  unfold doCall doPre doAns
  split
  · rfl
  split
  · rfl
  split <;> rfl
/-- One thing is like another: of its kind, its label, its target, no older. -/
def Like (a b : Th) : Prop := b.kind = a.kind ∧ b.lab = a.lab ∧ b.to = a.to ∧ a.ve ≤ b.ve
theorem Like.refl (a : Th) : Like a a := ⟨rfl, rfl, rfl, Int.le_refl _⟩
theorem Like.trans {a b c : Th} (h : Like a b) (k : Like b c) : Like a c := ⟨k.1.trans h.1, k.2.1.trans h.2.1, k.2.2.1.trans h.2.2.1, Int.le_trans h.2.2.2 k.2.2.2⟩
theorem set_like {us : List Th} {k : Int} {t : Th} (hk : 1 ≤ k ∧ k ≤ (us.length : Int)) (h : Like (thAt us k) t) (j : Int) (hj : 1 ≤ j) : Like (thAt us j) (thAt (setTh us k t) j) := by
  rw [thAt_set hk j hj]
  split
  · rename_i e; rw [e]; exact h
  · exact Like.refl _
theorem far_like {r : Rt} (h : FarOk ts q r) (j : Int) (hj : 1 ≤ j) : Like (thAt ts j) (thAt (far ts q r).1 j) := by
  have hrun := (kindAt_th h.run).1
  have hc := callOk_iff h.call
  have hn := h.copy
  unfold far
  split
  · exact Like.refl _
  split
  · refine set_like h.th ?_ j hj; exact ⟨rfl, rfl, rfl, Int.le_refl _⟩
  split
  · refine set_like hrun ?_ j hj; exact ⟨rfl, rfl, rfl, Int.le_refl _⟩
  split
  · refine set_like h.th ?_ j hj; exact ⟨rfl, rfl, rfl, Int.le_refl _⟩
  split
  · split
    · refine set_like h.th ?_ j hj; exact ⟨rfl, rfl, rfl, Int.le_refl _⟩
    · exact Like.refl _
  split
  · split
    · exact Like.refl _
    · refine set_like h.th ?_ j hj; exact ⟨rfl, rfl, rfl, Int.le_refl _⟩
  split
  · split
    · refine set_like h.th ?_ j hj; exact ⟨rfl, rfl, rfl, by show _ ≤ (_ : Int) + 1; omega⟩
    · exact Like.refl _
  · rename_i e1 e2 e4 e5 e6 e7 e8
    have h5 := (kindFor_k h.kind hc.1).2.2.2.2.2.2.2 (by omega)
    have hg := kindAt_th (gate_to h.tab h.th h5)
    have h1 := set_like (t := { thAt ts (thAt ts r.th).to with num := q.n % 2 }) hg.1 ⟨rfl, rfl, rfl, Int.le_refl _⟩ j hj
    have hth : 1 ≤ r.th ∧ r.th ≤ ((setNum ts (thAt ts r.th).to (q.n % 2)).length : Int) := by unfold setNum; rw [setTh_len]; exact h.th
    show Like (thAt ts j) (thAt (setTh (setNum ts (thAt ts r.th).to (q.n % 2)) r.th _) j)
    rw [thAt_set hth j hj]
    split
    · rename_i e; rw [e]; exact ⟨rfl, rfl, rfl, Int.le_refl _⟩
    · exact h1
theorem doPre_like (hp : callPoss ts q = true) (j : Int) (hj : 1 ≤ j) : Like (thAt ts j) (thAt (doPre ts q) j) := by
  obtain ⟨hT, hc, hr⟩ := callPoss_parts hp
  unfold doPre
  split
  · exact Like.refl _
  rename_i h0
  split
  · refine set_like (kindAt_th hr).1 ?_ j hj; exact ⟨rfl, rfl, rfl, Int.le_refl _⟩
  rename_i h3
  split
  · rename_i hl
    exact far_like (farOk_of hp h0 h3 hl) j hj
  · exact Like.refl _
theorem doPre_len (hp : callPoss ts q = true) : (doPre ts q).length = ts.length := by
  unfold doPre
  split
  · rfl
  rename_i h0
  split
  · exact setTh_len
  rename_i h3
  split
  · rename_i hl
    exact (far_ok (farOk_of hp h0 h3 hl)).2.1
  · rfl
theorem run_in (hp : callPoss ts q = true) : 1 ≤ q.run ∧ q.run ≤ ((doPre ts q).length : Int) := by rw [doPre_len hp]; exact (kindAt_th (callPoss_parts hp).2.2).1
theorem doCall_like (hp : callPoss ts q = true) (j : Int) (hj : 1 ≤ j) : Like (thAt ts j) (thAt (doCall ts q).1 j) := by
  rw [doCall_eq]
  refine (doPre_like hp j hj).trans (set_like (run_in hp) ?_ j hj)
  exact ⟨rfl, rfl, rfl, Int.le_refl _⟩
theorem doCall_num (hp : callPoss ts q = true) : (thAt (doCall ts q).1 q.run).num = (doCall ts q).2 := by
  rw [doCall_eq]
  show (thAt (setTh (doPre ts q) q.run _) q.run).num = _
  rw [thAt_set (run_in hp) q.run (run_in hp).1, if_pos rfl]
theorem far_ans {r : Rt} (h : FarOk ts q r) : (0 ≤ (far ts q r).2 ∨ ((far ts q r).2 = -4 ∧ (q.kind = 6 ∨ q.kind = 7 ∨ q.kind = 8))) ∧ ((far ts q r).2 ≤ 0 ∨ q.kind = 1 ∨ q.kind = 7) := by
  have hc := callOk_iff h.call
  have hk := kindFor_k h.kind hc.1
  have hrow := row_at h.tab h.th
  unfold far
  split
  · rename_i e
    have h4 := (thingOk_parts hrow.1).2.2.2.1
    unfold numOk at h4
    rw [if_pos (Or.inl (hk.1 e))] at h4
    exact ⟨Or.inl (inR_iff.1 h4).1, Or.inr (Or.inl e)⟩
  split
  · exact ⟨Or.inl (Int.le_refl 0), Or.inl (Int.le_refl 0)⟩
  split
  · exact ⟨Or.inl (Int.le_refl 0), Or.inl (Int.le_refl 0)⟩
  split
  · exact ⟨Or.inl (Int.le_refl 0), Or.inl (Int.le_refl 0)⟩
  split
  · rename_i e
    split
    · exact ⟨Or.inl (Int.le_refl 0), Or.inl (Int.le_refl 0)⟩
    · exact ⟨Or.inr ⟨rfl, Or.inl e⟩, Or.inl (show (-4 : Int) ≤ 0 by decide)⟩
  split
  · rename_i e
    have hp := pipe_q hrow.1 (hk.2.2.2.2.2.1 e)
    split
    · exact ⟨Or.inr ⟨rfl, Or.inr (Or.inl e)⟩, Or.inl (show (-4 : Int) ≤ 0 by decide)⟩
    · rename_i hl
      have := inR_iff.1 (List.all_eq_true.1 hp.2 _ (List.mem_of_getElem? (iAt_get (i := 0) (by omega))))
      exact ⟨Or.inl this.1, Or.inr (Or.inr e)⟩
  split
  · rename_i e
    split
    · exact ⟨Or.inl (Int.le_refl 0), Or.inl (Int.le_refl 0)⟩
    · exact ⟨Or.inr ⟨rfl, Or.inr (Or.inr e)⟩, Or.inl (show (-4 : Int) ≤ 0 by decide)⟩
  · exact ⟨Or.inl (Int.le_refl 0), Or.inl (Int.le_refl 0)⟩
/-- Each call has answers of its own. -/
theorem doAns_ans (hp : callPoss ts q = true) : ((0 ≤ doAns ts q ∨ (doAns ts q = -4 ∧ (q.kind = 6 ∨ q.kind = 7 ∨ q.kind = 8))) ∨ (check1 ts q < 0 ∧ doAns ts q = check1 ts q)) ∧ (doAns ts q ≤ 0 ∨ q.kind = 1 ∨ q.kind = 7) := by
  have hr := check_rng ts q
  unfold doAns
  split
  · rename_i h0; exact ⟨Or.inr ⟨h0, rfl⟩, Or.inl hr.2⟩
  rename_i h0
  split
  · exact ⟨Or.inl (Or.inl (by omega)), Or.inl hr.2⟩
  rename_i h3
  split
  · rename_i hl
    have h := far_ans (farOk_of hp h0 h3 hl)
    unfold told
    split
    · exact ⟨Or.inl h.1, h.2⟩
    · exact ⟨Or.inl (Or.inl (Int.le_refl 0)), Or.inl (Int.le_refl 0)⟩
  · exact ⟨Or.inl (Or.inl (by omega)), Or.inl hr.2⟩
theorem doAns_rng (hp : callPoss ts q = true) : -4 ≤ doAns ts q ∧ doAns ts q ≤ 99 := by
  have hr := check_rng ts q
  unfold doAns
  split
  · omega
  rename_i h0
  split
  · omega
  rename_i h3
  split
  · rename_i hl; exact told_rng (farOk_of hp h0 h3 hl)
  · omega
theorem thAt_ext {us vs : List Th} (hl : us.length = vs.length) (h : ∀ j : Int, 1 ≤ j → j ≤ (us.length : Int) → thAt us j = thAt vs j) : us = vs := by
  refine List.ext_getElem? fun i => ?_
  by_cases hi : i < us.length
  · have h1 := h ((i : Int) + 1) (by omega) (by omega)
    have e : ((i : Int) + 1 - 1).toNat = i := by omega
    have h2 := thAt_get (ts := us) (k := (i : Int) + 1) ⟨by omega, by omega⟩
    have h3 := thAt_get (ts := vs) (k := (i : Int) + 1) ⟨by omega, by omega⟩
    rw [e] at h2 h3
    rw [h2, h3, h1]
  · rw [List.getElem?_eq_none (by omega), List.getElem?_eq_none (by omega)]
theorem setNum_back {k n : Int} (hk : 1 ≤ k ∧ k ≤ (ts.length : Int)) : setNum (setNum ts k n) k (thAt ts k).num = ts := by
  unfold setNum
  rw [setTh_set]
  refine thAt_ext setTh_len fun j hj _ => ?_
  rw [thAt_set hk j hj]
  split
  · rename_i e
    rw [thAt_set hk k hk.1, if_pos rfl, e]
  · rfl
/-- What a call changes: the runner, its thing, and, through a gate, a page. -/
theorem far_touch {r : Rt} (h : FarOk ts q r) {j : Int} (hj : 1 ≤ j) (hne : ¬ thAt (far ts q r).1 j = thAt ts j) : (q.kind = 4 ∧ j = q.run) ∨ ((q.kind = 2 ∨ q.kind = 5 ∨ q.kind = 6 ∨ q.kind = 7 ∨ q.kind = 8 ∨ q.kind = 9) ∧ j = r.th) ∨ (q.kind = 9 ∧ j = (thAt ts r.th).to) := by
  have hrun := (kindAt_th h.run).1
  have hc := callOk_iff h.call
  have hn := h.copy
  have one : ∀ {k : Int} {t : Th}, 1 ≤ k ∧ k ≤ (ts.length : Int) → ¬ thAt (setTh ts k t) j = thAt ts j → j = k := fun hk hx => by
    rw [thAt_set hk j hj] at hx
    split at hx
    · assumption
    · exact absurd rfl hx
  unfold far at hne
  split at hne
  · exact absurd rfl hne
  split at hne
  · rename_i e; exact Or.inr (Or.inl ⟨by omega, one h.th hne⟩)
  split at hne
  · rename_i e; exact Or.inl ⟨e, one hrun hne⟩
  split at hne
  · rename_i e; exact Or.inr (Or.inl ⟨by omega, one h.th hne⟩)
  split at hne
  · rename_i e
    split at hne
    · exact Or.inr (Or.inl ⟨by omega, one h.th hne⟩)
    · exact absurd rfl hne
  split at hne
  · rename_i e
    split at hne
    · exact absurd rfl hne
    · exact Or.inr (Or.inl ⟨by omega, one h.th hne⟩)
  split at hne
  · rename_i e
    split at hne
    · exact Or.inr (Or.inl ⟨by omega, one h.th hne⟩)
    · exact absurd rfl hne
  · rename_i e1 e2 e4 e5 e6 e7 e8
    have h9 : q.kind = 9 := by omega
    have h5 := (kindFor_k h.kind hc.1).2.2.2.2.2.2.2 h9
    have hg := kindAt_th (gate_to h.tab h.th h5)
    have hth : 1 ≤ r.th ∧ r.th ≤ ((setNum ts (thAt ts r.th).to (q.n % 2)).length : Int) := by unfold setNum; rw [setTh_len]; exact h.th
    change ¬ thAt (setTh (setNum ts (thAt ts r.th).to (q.n % 2)) r.th _) j = thAt ts j at hne
    rw [thAt_set hth j hj] at hne
    split at hne
    · rename_i e; exact Or.inr (Or.inl ⟨by omega, e⟩)
    · exact Or.inr (Or.inr ⟨h9, one hg.1 hne⟩)
theorem doCall_touch (hp : callPoss ts q = true) {j : Int} (hj : 1 ≤ j) (hne : ¬ thAt (doCall ts q).1 j = thAt ts j) : j = q.run ∨ ((kindFor q.kind (thAt ts (slotAt ts q.run q.a).th).kind = true ∧ ¬ q.kind = 3 ∧ 1 ≤ (slotAt ts q.run q.a).th ∧ (slotAt ts q.run q.a).th ≤ (ts.length : Int)) ∧ (((q.kind = 2 ∨ q.kind = 5 ∨ q.kind = 6 ∨ q.kind = 7 ∨ q.kind = 8 ∨ q.kind = 9) ∧ j = (slotAt ts q.run q.a).th) ∨ (q.kind = 9 ∧ j = (thAt ts (slotAt ts q.run q.a).th).to))) := by
  by_cases hjr : j = q.run
  · exact Or.inl hjr
  refine Or.inr ?_
  rw [doCall_eq] at hne
  change ¬ thAt (setTh (doPre ts q) q.run _) j = thAt ts j at hne
  rw [thAt_set (run_in hp) j hj, if_neg hjr] at hne
  unfold doPre at hne
  have hrun := (kindAt_th (callPoss_parts hp).2.2).1
  split at hne
  · exact absurd rfl hne
  rename_i h0
  split at hne
  · unfold putSl at hne
    rw [thAt_set hrun j hj, if_neg hjr] at hne
    exact absurd rfl hne
  rename_i h3
  split at hne
  · rename_i hl
    have hF := farOk_of hp h0 h3 hl
    refine ⟨⟨hF.kind, h3, hF.th⟩, ?_⟩
    rcases far_touch hF hj hne with h | h | h
    · exact absurd h.2 hjr
    · exact Or.inl h
    · exact Or.inr h
  · exact absurd rfl hne
/-- Nobody changes another runner. -/
theorem own_slots (hp : callPoss ts q = true) {j : Int} (hj : 1 ≤ j) (hr : ¬ j = q.run) (hk : (thAt ts j).kind = 3) : thAt (doCall ts q).1 j = thAt ts j := by
  by_cases hne : thAt (doCall ts q).1 j = thAt ts j
  · exact hne
  exfalso
  obtain ⟨hT, hc, hrun⟩ := callPoss_parts hp
  have hco := callOk_iff hc
  rcases doCall_touch hp hj hne with h | ⟨⟨hkf, h3, hth⟩, h | h⟩
  · exact hr h
  · have := kindFor_k hkf hco.1
    rw [← h.2, hk] at this
    omega
  · have h5 := (kindFor_k hkf hco.1).2.2.2.2.2.2.2 h.1
    have hg := kindAt_th (gate_to hT hth h5)
    rw [← h.2, hk] at hg
    exact absurd hg.2 (by decide)
/-- Pages change by what writes, renews, or goes down; nodes, pipes, gates likewise. -/
theorem page_only (hp : callPoss ts q = true) {j : Int} (hj : 1 ≤ j) (hne : ¬ thAt (doCall ts q).1 j = thAt ts j) : ((thAt ts j).kind = 1 → q.kind = 2 ∨ q.kind = 8 ∨ q.kind = 9) ∧ ((thAt ts j).kind = 2 → q.kind = 5 ∨ q.kind = 8) ∧ ((thAt ts j).kind = 4 → q.kind = 6 ∨ q.kind = 7 ∨ q.kind = 8) ∧ ((thAt ts j).kind = 5 → q.kind = 9) := by
  obtain ⟨hT, hc, hrun⟩ := callPoss_parts hp
  have hco := callOk_iff hc
  have hr := (kindAt_th hrun).2
  rcases doCall_touch hp hj hne with h | ⟨⟨hkf, h3, hth⟩, h | h⟩
  · rw [h, hr]
    exact ⟨by omega, by omega, by omega, by omega⟩
  · have := kindFor_k hkf hco.1
    rw [← h.2] at this
    exact ⟨by omega, by omega, by omega, by omega⟩
  · have h5 := (kindFor_k hkf hco.1).2.2.2.2.2.2.2 h.1
    have hg := kindAt_th (gate_to hT hth h5)
    rw [← h.2] at hg
    exact ⟨by omega, by omega, by omega, by omega⟩
/-- What is read is what is there. -/
theorem do_read (hp : callPoss ts q = true) (h1 : q.kind = 1) (ha : 0 ≤ doAns ts q) : doAns ts q = (thAt ts (slotAt ts q.run q.a).th).num ∧ doPre ts q = ts := by
  have h3 : ¬ q.kind = 3 := by omega
  have hck := check_rng ts q
  have e := chkAll_yes hp
  have h0 : ¬ check1 ts q < 0 := fun h => by unfold doAns at ha; rw [if_pos h] at ha; omega
  have hz : chkAll ts q = 0 := by omega
  have hs := (chk_flow (ts := ts) (q := q) (by omega) (by omega) h3).1 (by unfold need0; rw [if_pos (Or.inl h1)])
  have hl := chk_zero hz h3 hs
  have hf : far ts q (slotAt ts q.run q.a) = (ts, (thAt ts (slotAt ts q.run q.a).th).num) := by unfold far; rw [if_pos h1]
  unfold doAns doPre told
  rw [if_neg h0, if_neg h3, if_pos hl, if_neg h0, if_neg h3, if_pos hl, hf, if_pos hs]
  exact ⟨rfl, rfl⟩
/-- What is refused changes nothing but the answer. -/
theorem do_refused (h : check1 ts q < 0) : doAns ts q = check1 ts q ∧ doPre ts q = ts := by
  unfold doAns doPre
  rw [if_pos h, if_pos h]
  exact ⟨rfl, rfl⟩
theorem callDo_yes (h : callPoss ts q = true) : callDo ts q = doCall ts q := by unfold callDo; rw [if_pos h]
theorem callDo_no (h : callPoss ts q = false) : callDo ts q = ([], -1) := by unfold callDo; rw [h]; rfl
theorem TabG.nil {lo : Nat} {w : World} {a : Option Addr} : TabG lo w a [] := ⟨fun k x h => by simp at h, fun m hm => by cases hm⟩
theorem callDo_tab {xs : List MTh} (h : tabT xs = (callDo ts q).1) : TabLen xs := by
  cases hp : callPoss ts q with
  | true => exact TabLen.ok (by rw [h, callDo_yes hp]; exact (doCall_ok hp).1)
  | false =>
    rw [callDo_no hp] at h
    have : xs = [] := List.map_eq_nil_iff.1 h
    rw [this]
    intro m hm
    cases hm
theorem callDo_small {xs : List MTh} (h : tabT xs = (callDo ts q).1) : xs.length ≤ 8 := by
  cases hp : callPoss ts q with
  | true =>
    have hT : tableOk (tabT xs) = true := by rw [h, callDo_yes hp]; exact (doCall_ok hp).1
    exact (tab_len hT).2
  | false =>
    rw [callDo_no hp] at h
    have : xs = [] := List.map_eq_nil_iff.1 h
    rw [this]
    exact Nat.zero_le _
theorem callDo_len {ms xs : List MTh} (h : tabT xs = (callDo (tabT ms) q).1) (hp : callPoss (tabT ms) q = true) : xs.length = ms.length := by
  have := congrArg List.length h
  rwa [callDo_yes hp, (doCall_ok hp).2.1, tabT_len, tabT_len] at this
/-- What a ring's place holds behind so many numbers of a list. -/
def rc (ns : List Int) (k : Int) (j : Nat) : Int := if (j : Int) < k then iAt ns j else 0
theorem rc_all {ns : List Int} {k : Int} {j : Nat} (h : (ns.length : Int) ≤ k) : rc ns k j = iAt ns j := by
  unfold rc
  split
  · rfl
  · unfold iAt
    rw [List.getD_eq_getElem?_getD, List.getElem?_eq_none (by omega)]
    rfl
theorem q_0 {l : List Int} (h : l.length = 0) (n : Int) : [n] = l ++ [n] := by
  rw [List.length_eq_zero_iff.1 h]; rfl
theorem q_1 {l : List Int} (h : l.length = 1) (n : Int) : [iAt l 0, n] = l ++ [n] := by
  obtain ⟨a, rfl⟩ := List.length_eq_one_iff.1 h
  rfl
theorem q_2 {l : List Int} (h : l.length = 2) (n : Int) : [iAt l 0, iAt l 1, n] = l ++ [n] := by
  match l, h with
  | [a, b], _ => rfl
theorem t_1 {l : List Int} (h : l.length = 1) : [] = l.drop 1 := by
  match l, h with
  | [a], _ => rfl
theorem t_2 {l : List Int} (h : l.length = 2) : [iAt l 1] = l.drop 1 := by
  match l, h with
  | [a, b], _ => rfl
theorem t_3 {l : List Int} (h : l.length = 3) : [iAt l 1, iAt l 2] = l.drop 1 := by
  match l, h with
  | [a, b, c], _ => rfl
theorem tab_set_take {zs ms : List MTh} {k : Nat} {m' : MTh} (h : (tabT zs).take k = (tabT ms).take k) (hk : k < zs.length) (hk2 : k < ms.length) (e : m'.t = (mAt ms k).t) : (tabT (zs.set k m')).take (k + 1) = (tabT ms).take (k + 1) := by
  apply List.ext_getElem?
  intro i
  rw [List.getElem?_take, List.getElem?_take]
  by_cases hi : i < k + 1
  · rw [if_pos hi, if_pos hi]
    unfold tabT
    rw [List.getElem?_map, List.getElem?_map, List.getElem?_set]
    by_cases e2 : k = i
    · subst e2
      rw [if_pos rfl, if_pos hk, mAt_get hk2]
      simp [e]
    · rw [if_neg e2]
      have h3 := congrArg (fun l => l[i]?) h
      simp only [List.getElem?_take, tabT, List.getElem?_map] at h3
      rw [if_pos (by omega), if_pos (by omega)] at h3
      exact h3
  · rw [if_neg hi, if_neg hi]
theorem tab_take_all {zs ms : List MTh} {k : Nat} (h : (tabT zs).take k = (tabT ms).take k) (h1 : zs.length ≤ k) (h2 : ms.length ≤ k) : tabT zs = tabT ms := by
  rwa [List.take_of_length_le (by rw [tabT_len]; exact h1), List.take_of_length_le (by rw [tabT_len]; exact h2)] at h
theorem rowsO_zero {TR TI lo n : Nat} {w : World} : RowsO TR TI lo w (List.replicate n MTh.zero) := by
  refine ⟨fun m hm => ?_, fun i j S hi hj _ e => ?_⟩
  · obtain ⟨_, rfl⟩ := List.mem_replicate.1 hm
    exact ⟨OwnN.nil, OwnN.nil⟩
  · exfalso
    have h1 := List.mem_of_getElem? (mAt_get hi)
    have h2 := (List.mem_replicate.1 h1).2
    rw [h2] at e
    cases e
theorem far_sees {r : Rt} (h : FarOk ts q r) : sees (far ts q r).1 q.run r.th = sees ts q.run r.th := by
  have h1 := far_like h q.run (kindAt_th h.run).1.1
  have h2 := far_like h r.th h.th.1
  unfold sees
  rw [h1.2.1, h2.2.1]
theorem ans_dead (h0 : check1 ts q = 0) (h3 : ¬ q.kind = 3) (hl : live ts (slotAt ts q.run q.a) = false) : doAns ts q = 0 ∧ doPre ts q = ts := by
  have h1 : ¬ check1 ts q < 0 := by omega
  refine ⟨?_, ?_⟩
  · unfold doAns
    rw [if_neg h1, if_neg h3, if_neg (by rw [hl]; exact Bool.false_ne_true)]
    exact h0
  · unfold doPre
    rw [if_neg h1, if_neg h3, if_neg (by rw [hl]; exact Bool.false_ne_true)]
theorem ans_far {r : Rt} (hr : slotAt ts q.run q.a = r) (h0 : check1 ts q = 0) (h3 : ¬ q.kind = 3) (hl : live ts r = true) (hF : FarOk ts q r) : doAns ts q = (if sees ts q.run r.th = true then (far ts q r).2 else 0) ∧ doPre ts q = (far ts q r).1 := by
  subst hr
  have h1 : ¬ check1 ts q < 0 := by omega
  refine ⟨?_, ?_⟩
  · unfold doAns told
    rw [if_neg h1, if_neg h3, if_pos hl, far_sees hF]
  · unfold doPre
    rw [if_neg h1, if_neg h3, if_pos hl]
theorem ans_copy {r : Rt} (hr : slotAt ts q.run q.a = r) (h3 : q.kind = 3) : doAns ts q = 0 ∧ doPre ts q = putSl ts q.run q.b (lessBits r q.n) := by
  subst hr
  have hc : check1 ts q = 0 := by unfold check1; rw [if_pos h3]
  have h1 : ¬ check1 ts q < 0 := by omega
  refine ⟨?_, ?_⟩
  · unfold doAns
    rw [if_neg h1, if_pos h3]
    exact hc
  · unfold doPre
    rw [if_neg h1, if_pos h3]
theorem and_bits {n : Int} (h : 0 ≤ n ∧ n ≤ 99) : (!decide (bits .and .i64 n 1 = 0)) = decide (n % 2 = 1) ∧ (!decide (bits .and .i64 n 2 = 0)) = decide (n / 2 % 2 = 1) ∧ (!decide (bits .and .i64 n 4 = 0)) = decide (n / 4 % 2 = 1) := by
  have key : ∀ k : Fin 100, (!decide (bits .and .i64 (k.val : Int) 1 = 0)) = decide ((k.val : Int) % 2 = 1) ∧ (!decide (bits .and .i64 (k.val : Int) 2 = 0)) = decide ((k.val : Int) / 2 % 2 = 1) ∧ (!decide (bits .and .i64 (k.val : Int) 4 = 0)) = decide ((k.val : Int) / 4 % 2 = 1) := by decide +kernel
  have h1 := key ⟨n.toNat, by omega⟩
  have e : ((n.toNat : Nat) : Int) = n := by omega
  simp only [e] at h1
  exact h1
theorem less_and {r : Rt} {n : Int} (h : 0 ≤ n ∧ n ≤ 99) : l2Less r (!decide (bits .and .i64 n 1 = 0)) (!decide (bits .and .i64 n 2 = 0)) (!decide (bits .and .i64 n 4 = 0)) = lessBits r n := by
  obtain ⟨h1, h2, h3⟩ := and_bits h
  unfold lessBits
  rw [h1, h2, h3]
theorem doCall_1 : (doCall ts q).1 = setNum (doPre ts q) q.run (doAns ts q) := by rw [doCall_eq]
theorem doCall_2 : (doCall ts q).2 = doAns ts q := by rw [doCall_eq]
theorem can_m {ms : List MTh} : (((tableOk (tabT ms) && callOk q) && decide (q.run ≤ (ms.length : Int))) && decide ((mAt ms (q.run - 1).toNat).t.kind = 3)) = callPoss (tabT ms) q := by
  unfold callPoss
  rw [← kindAt_m]
  cases h1 : tableOk (tabT ms) <;> cases h2 : callOk q <;> try rfl
  have hco := callOk_iff h2
  have e : inR q.run 1 (ms.length : Int) = decide (q.run ≤ (ms.length : Int)) := by
    unfold inR
    rw [decide_eq_true hco.2.1.1]
    rfl
  rw [e]
  rfl
theorem mAt_nat (ms : List MTh) (k : Nat) : (mAt ms k).t = thAt (tabT ms) ((k : Int) + 1) := by
  have h := mAt_th ms ((k : Int) + 1)
  rwa [show ((k : Int) + 1 - 1).toNat = k by omega] at h
theorem at_do {ms xs : List MTh} (ht : tabT xs = (callDo (tabT ms) q).1) (hp : callPoss (tabT ms) q = true) (k : Nat) : (mAt xs k).t = thAt (doCall (tabT ms) q).1 ((k : Int) + 1) := by rw [mAt_nat, ht, callDo_yes hp]
theorem like_m {ms xs : List MTh} (ht : tabT xs = (callDo (tabT ms) q).1) (hp : callPoss (tabT ms) q = true) (k : Nat) : Like (mAt ms k).t (mAt xs k).t := by
  rw [at_do ht hp, mAt_nat]
  exact doCall_like hp _ (by omega)
theorem own_m {ms xs : List MTh} (ht : tabT xs = (callDo (tabT ms) q).1) (hp : callPoss (tabT ms) q = true) {k : Nat} (h1 : ¬ (k : Int) + 1 = q.run) (h2 : (mAt ms k).t.kind = 3) : (mAt xs k).t = (mAt ms k).t := by
  rw [mAt_nat] at h2
  rw [at_do ht hp, mAt_nat]
  exact own_slots hp (by omega) h1 h2
theorem page_m {ms xs : List MTh} (ht : tabT xs = (callDo (tabT ms) q).1) (hp : callPoss (tabT ms) q = true) {k : Nat} (hne : ¬ (mAt xs k).t = (mAt ms k).t) : ((mAt ms k).t.kind = 1 → q.kind = 2 ∨ q.kind = 8 ∨ q.kind = 9) ∧ ((mAt ms k).t.kind = 2 → q.kind = 5 ∨ q.kind = 8) ∧ ((mAt ms k).t.kind = 4 → q.kind = 6 ∨ q.kind = 7 ∨ q.kind = 8) ∧ ((mAt ms k).t.kind = 5 → q.kind = 9) := by
  rw [at_do ht hp, mAt_nat] at hne
  rw [mAt_nat]
  exact page_only hp (by omega) hne
theorem num_do {ms xs : List MTh} (ht : tabT xs = (callDo (tabT ms) q).1) (hp : callPoss (tabT ms) q = true) : (mAt xs (q.run - 1).toNat).t.num = (callDo (tabT ms) q).2 := by
  rw [mAt_th, ht, callDo_yes hp]
  exact doCall_num hp
theorem ok_do (hp : callPoss ts q = true) : tableOk (callDo ts q).1 = true := by rw [callDo_yes hp]; exact (doCall_ok hp).1
theorem rng_do (hp : callPoss ts q = true) : -4 ≤ (callDo ts q).2 ∧ (callDo ts q).2 ≤ 99 := by rw [callDo_yes hp, doCall_2]; exact doAns_rng hp
theorem ans_full (hp : callPoss ts q = true) (h : decide ((callDo ts q).2 = (-4)) = true) : ((decide (q.kind = 6) || decide (q.kind = 7)) || decide (q.kind = 8)) = true := by
  rw [callDo_yes hp, doCall_2] at h
  have h := of_decide_eq_true h
  have hc := check_rng ts q
  rcases (doAns_ans hp).1 with (h1 | ⟨_, h1 | h1 | h1⟩) | ⟨_, h1⟩
  · omega
  · simp [h1]
  · simp [h1]
  · simp [h1]
  · omega
theorem ans_else (hp : callPoss ts q = true) : ((decide ((callDo ts q).2 ≤ 0) || decide (q.kind = 1)) || decide (q.kind = 7)) = true := by
  rw [callDo_yes hp, doCall_2]
  rcases (doAns_ans hp).2 with h1 | h1 | h1 <;> simp [h1]
end
end Go.Dw
