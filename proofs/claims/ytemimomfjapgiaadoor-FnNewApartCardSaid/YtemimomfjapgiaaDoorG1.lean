/-
  The plain law of what is told ahead of a call: as the rows ask it.
-/
import Derived.Test.YtemimomfjapgiaaDoorFA
namespace Go.Dw
def chkAll (ts : List Th) (q : Cl) : Int := if callPoss ts q = true then check1 ts q else -1
def chkSees (ts : List Th) (run th : Int) : Bool := ((tableOk ts && kindAt ts run 3) && inR th 1 (ts.length : Int)) && sees ts run th
def chkTouches (ts : List Th) (run th : Int) : Bool := ((tableOk ts && kindAt ts run 3) && inR th 1 (ts.length : Int)) && touches ts run th
def tabLive (ts : List Th) (r : Rt) : Bool := (tableOk ts && rightOk r) && live ts r
/-- The kinds of things that a kind of call is of. -/
def kindsOf (c : Int) : List Int := if c = 1 ∨ c = 2 then [1] else if c = 4 ∨ c = 5 then [2] else if c = 6 ∨ c = 7 then [4] else if c = 9 then [5] else [1, 2, 4]
theorem has_kind (c x : Int) : (kindsOf c).any (fun y => decide (y = x)) = kindFor c x := by
  have e : ∀ a b : Int, decide (a = b) = decide (b = a) := fun a b => by rw [Bool.eq_iff_iff]; simp [eq_comm]
  unfold kindsOf kindFor
  split
  · simp [e 1 x]
  split
  · simp [e 2 x]
  split
  · simp [e 4 x]
  split
  · simp [e 5 x]
  · simp [e 1 x, e 2 x, e 4 x, Bool.or_assoc]
section
variable {ts : List Th} {q : Cl}
theorem chkAll_rng : -3 ≤ chkAll ts q ∧ chkAll ts q ≤ 0 := by
  have := check_rng ts q
  unfold chkAll
  split <;> omega
theorem chkAll_yes (h : callPoss ts q = true) : chkAll ts q = check1 ts q := by unfold chkAll; rw [if_pos h]
theorem chkAll_no (h : callPoss ts q = false) : chkAll ts q = -1 := by unfold chkAll; rw [h]; rfl
theorem callPoss_or (h : (((!tableOk ts) || (!callOk q)) || (!kindAt ts q.run 3)) = true) : callPoss ts q = false := by
  unfold callPoss
  cases h1 : tableOk ts <;> cases h2 : callOk q <;> cases h3 : kindAt ts q.run 3 <;> simp_all
theorem callPoss_nor (h : (((!tableOk ts) || (!callOk q)) || (!kindAt ts q.run 3)) = false) : callPoss ts q = true := by
  unfold callPoss
  cases h1 : tableOk ts <;> cases h2 : callOk q <;> cases h3 : kindAt ts q.run 3 <;> simp_all
theorem chkAll_poss (h : ¬ chkAll ts q = -1) : callPoss ts q = true := by
  unfold chkAll at h
  split at h
  · assumption
  · exact absurd rfl h
/-- What is found, where a call is not refused for what is no right. -/
theorem chk_parts (h : ¬ chkAll ts q = -1) (h3 : ¬ q.kind = 3) : (1 ≤ (slotAt ts q.run q.a).th ∧ (slotAt ts q.run q.a).th ≤ (ts.length : Int)) ∧ kindFor q.kind (thAt ts (slotAt ts q.run q.a).th).kind = true ∧ (need0 q.kind = true → (slotAt ts q.run q.a).rd = true) ∧ (need1 q.kind = true → (slotAt ts q.run q.a).wr = true) := by
  have hp := chkAll_poss h
  obtain ⟨hT, hc, hr⟩ := callPoss_parts hp
  have hs := slot_ok hT (kindAt_th hr).1 q.a
  rw [chkAll_yes hp] at h
  unfold check1 at h
  rw [if_neg h3] at h
  split at h
  · exact absurd rfl h
  rename_i h1
  unfold chk1 at h1
  simp only [Bool.or_eq_true, Bool.and_eq_true, Bool.not_eq_true', decide_eq_true_eq, not_or, not_and, Bool.not_eq_false] at h1
  obtain ⟨⟨⟨h0, hk⟩, hr1⟩, hw1⟩ := h1
  refine ⟨?_, hk, hr1, hw1⟩
  have h2 := hs.2
  unfold rightTo at h2
  rw [Bool.or_eq_true] at h2
  rcases h2 with h2 | h2
  · exact absurd (of_decide_eq_true h2) h0
  · exact inR_iff.1 (Bool.and_eq_true_iff.1 h2).1
theorem chk_flow (h : ¬ chkAll ts q = -1) (h2 : ¬ chkAll ts q = -2) (h3 : ¬ q.kind = 3) : (need0 q.kind = true → sees ts q.run (slotAt ts q.run q.a).th = true) ∧ (need1 q.kind = true → touches ts q.run (slotAt ts q.run q.a).th = true) := by
  have hp := chkAll_poss h
  rw [chkAll_yes hp] at h h2
  unfold check1 at h h2
  rw [if_neg h3] at h h2
  split at h
  · exact absurd rfl h
  rename_i h1
  rw [if_neg h1] at h2
  split at h2
  · exact absurd rfl h2
  rename_i h4
  unfold chk2 at h4
  simp only [Bool.or_eq_true, Bool.and_eq_true, Bool.not_eq_true', not_or, not_and, Bool.not_eq_false] at h4
  exact h4
theorem chk_zero (h : chkAll ts q = 0) (h3 : ¬ q.kind = 3) (hs : sees ts q.run (slotAt ts q.run q.a).th = true) : live ts (slotAt ts q.run q.a) = true := by
  have hp := chkAll_poss (ts := ts) (q := q) (by omega)
  rw [chkAll_yes hp] at h
  unfold check1 at h
  rw [if_neg h3] at h
  split at h
  · exact absurd h (by decide)
  split at h
  · exact absurd h (by decide)
  split at h
  · exact absurd h (by decide)
  rename_i h4
  unfold chk3 at h4
  rw [hs] at h4
  simpa using h4
theorem chk_three (h : chkAll ts q = -3) (h3 : ¬ q.kind = 3) : sees ts q.run (slotAt ts q.run q.a).th = true ∧ live ts (slotAt ts q.run q.a) = false := by
  have hp := chkAll_poss (ts := ts) (q := q) (by omega)
  rw [chkAll_yes hp] at h
  unfold check1 at h
  rw [if_neg h3] at h
  split at h
  · exact absurd h (by decide)
  split at h
  · exact absurd h (by decide)
  split at h
  · rename_i h4
    unfold chk3 at h4
    simpa using h4
  · exact absurd h (by decide)
theorem chkSees_in (hT : tableOk ts = true) (hk : kindAt ts q.run 3 = true) {t : Int} (ht : 1 ≤ t ∧ t ≤ (ts.length : Int)) : chkSees ts q.run t = sees ts q.run t := by
  unfold chkSees
  rw [hT, hk, inR_iff.2 ht]
  rfl
theorem chkTouches_in (hT : tableOk ts = true) (hk : kindAt ts q.run 3 = true) {t : Int} (ht : 1 ≤ t ∧ t ≤ (ts.length : Int)) : chkTouches ts q.run t = touches ts q.run t := by
  unfold chkTouches
  rw [hT, hk, inR_iff.2 ht]
  rfl
theorem tabLive_in (hT : tableOk ts = true) (hk : kindAt ts q.run 3 = true) : tabLive ts (slotAt ts q.run q.a) = live ts (slotAt ts q.run q.a) := by
  unfold tabLive
  rw [hT, (slot_ok hT (kindAt_th hk).1 q.a).1]
  rfl
/-- What is read is seen. -/
theorem right_read (h : chkAll ts q = 0) (hk : q.kind = 1 ∨ q.kind = 4) : ((slotAt ts q.run q.a).rd && chkSees ts q.run (slotAt ts q.run q.a).th) = true := by
  have h3 : ¬ q.kind = 3 := by omega
  obtain ⟨hT, _, hr⟩ := callPoss_parts (chkAll_poss (ts := ts) (q := q) (by omega))
  have h1 := chk_parts (ts := ts) (q := q) (by omega) h3
  have h2 := chk_flow (ts := ts) (q := q) (by omega) (by omega) h3
  have hn : need0 q.kind = true := by unfold need0; rw [if_pos hk]
  rw [h1.2.2.1 hn, chkSees_in hT hr h1.1, h2.1 hn]
  rfl
theorem right_write (h : chkAll ts q = 0) (h3 : ¬ q.kind = 3) (hk : ¬ (q.kind = 1 ∨ q.kind = 4)) : ((slotAt ts q.run q.a).wr = true ∧ chkTouches ts q.run (slotAt ts q.run q.a).th = true) ∧ (q.kind = 7 → (slotAt ts q.run q.a).rd = true ∧ chkSees ts q.run (slotAt ts q.run q.a).th = true) := by
  obtain ⟨hT, _, hr⟩ := callPoss_parts (chkAll_poss (ts := ts) (q := q) (by omega))
  have h1 := chk_parts (ts := ts) (q := q) (by omega) h3
  have h2 := chk_flow (ts := ts) (q := q) (by omega) (by omega) h3
  have hn : need1 q.kind = true := by unfold need1; rw [if_neg hk]
  refine ⟨⟨h1.2.2.2 hn, by rw [chkTouches_in hT hr h1.1]; exact h2.2 hn⟩, fun h7 => ?_⟩
  have hn0 : need0 q.kind = true := by unfold need0; rw [if_neg hk, if_pos h7]
  exact ⟨h1.2.2.1 hn0, by rw [chkSees_in hT hr h1.1]; exact h2.1 hn0⟩
/-- What one sees to be gone is told. -/
theorem gone_law (h3 : ¬ q.kind = 3) (ha : chkAll ts q = -3 ∨ chkAll ts q = 0) : (decide (chkAll ts q = 0) = true ∧ (tabLive ts (slotAt ts q.run q.a) = true ∨ chkSees ts q.run (slotAt ts q.run q.a).th = false)) ∨ (decide (chkAll ts q = -3) = true ∧ chkSees ts q.run (slotAt ts q.run q.a).th = true ∧ tabLive ts (slotAt ts q.run q.a) = false) := by
  obtain ⟨hT, _, hr⟩ := callPoss_parts (chkAll_poss (ts := ts) (q := q) (by omega))
  have h1 := chk_parts (ts := ts) (q := q) (by omega) h3
  rw [chkSees_in hT hr h1.1, tabLive_in hT hr]
  rcases ha with h | h
  · exact Or.inr ⟨decide_eq_true h, chk_three h h3⟩
  · refine Or.inl ⟨decide_eq_true h, ?_⟩
    cases hs : sees ts q.run (slotAt ts q.run q.a).th with
    | false => exact Or.inr rfl
    | true => exact Or.inl (chk_zero h h3 hs)
/-- One does not read up, nor write down. -/
theorem read_up (hT : tableOk ts = true) (hc : callOk q = true) (hr : kindAt ts q.run 3 = true) {j : Int} (hj : 0 ≤ j ∧ j ≤ 3) (h0 : ¬ (slotAt ts q.run j).th = 0) (hk : (thAt ts (slotAt ts q.run j).th).kind = 1) :
    ((slotAt ts q.run j).rd = true → chkSees ts q.run (slotAt ts q.run j).th = false → chkAll ts ⟨1, q.run, j, 0, 0⟩ = -2) ∧ ((slotAt ts q.run j).wr = true → chkTouches ts q.run (slotAt ts q.run j).th = false → chkAll ts ⟨2, q.run, j, 0, 0⟩ = -2) := by
  have hco := callOk_iff hc
  have hin : 1 ≤ (slotAt ts q.run j).th ∧ (slotAt ts q.run j).th ≤ (ts.length : Int) := by
    have h2 := (slot_ok hT (kindAt_th hr).1 j).2
    unfold rightTo at h2
    rw [Bool.or_eq_true] at h2
    rcases h2 with h2 | h2
    · exact absurd (of_decide_eq_true h2) h0
    · exact inR_iff.1 (Bool.and_eq_true_iff.1 h2).1
  have hp : ∀ k : Int, 1 ≤ k → k ≤ 2 → callPoss ts ⟨k, q.run, j, 0, 0⟩ = true := fun k k1 k2 => by
    unfold callPoss callOk
    simp only
    rw [hT, hr, inR_iff.2 (show 1 ≤ k ∧ k ≤ 9 by omega), inR_iff.2 hco.2.1, inR_iff.2 hj]
    decide
  rw [chkSees_in hT hr hin, chkTouches_in hT hr hin]
  have hkf : ∀ k : Int, k = 1 ∨ k = 2 → kindFor k (thAt ts (slotAt ts q.run j).th).kind = true := fun k e => by unfold kindFor; rw [if_pos e, hk]; rfl
  refine ⟨fun hrd hs => ?_, fun hwr hs => ?_⟩
  · rw [chkAll_yes (hp 1 (by decide) (by decide))]
    unfold check1
    rw [if_neg (show ¬ (1 : Int) = 3 by decide), if_neg (by
      unfold chk1
      simp only [hkf 1 (Or.inl rfl), hrd, decide_eq_false h0]
      simp [need0, need1]), if_pos (by
      unfold chk2
      simp only [hs]
      simp [need0, need1])]
  · rw [chkAll_yes (hp 2 (by decide) (by decide))]
    unfold check1
    rw [if_neg (show ¬ (2 : Int) = 3 by decide), if_neg (by
      unfold chk1
      simp only [hkf 2 (Or.inr rfl), hwr, decide_eq_false h0]
      simp [need0, need1]), if_pos (by
      unfold chk2
      simp only [hs]
      simp [need0, need1])]
theorem sees_i {ms : List MTh} {run th : Int} (hT : tableOk (tabT ms) = true) (hr : 1 ≤ run ∧ run ≤ (ms.length : Int)) (ht : 1 ≤ th ∧ th ≤ (ms.length : Int)) : labelFlow (mAt ms (th - 1).toNat).t.lab (mAt ms (run - 1).toNat).t.lab = sees (tabT ms) run th := by
  rw [← sees_m]
  unfold labelFlow
  rw [tab_lab hT (i := (th - 1).toNat) (by omega), tab_lab hT (i := (run - 1).toNat) (by omega)]
  rfl
theorem touches_i {ms : List MTh} {run th : Int} (hT : tableOk (tabT ms) = true) (hr : 1 ≤ run ∧ run ≤ (ms.length : Int)) (ht : 1 ≤ th ∧ th ≤ (ms.length : Int)) : labelFlow (mAt ms (run - 1).toNat).t.lab (mAt ms (th - 1).toNat).t.lab = touches (tabT ms) run th := by
  rw [← touches_m]
  unfold labelFlow
  rw [tab_lab hT (i := (th - 1).toNat) (by omega), tab_lab hT (i := (run - 1).toNat) (by omega)]
  rfl
theorem kinds_len {c : Int} : (kindsOf c).length ≤ 3 := by
  unfold kindsOf
  repeat' split
  all_goals decide
theorem exam_a {ms : List MTh} {r : Rt} (h : (decide (r.th = 0) || !kindFor q.kind (mAt ms (r.th - 1).toNat).t.kind) = true) : chk1m ms q r = true := by unfold chk1m; rw [h]; rfl
theorem exam_b {ms : List MTh} {r : Rt} (h : (decide (r.th = 0) || !kindFor q.kind (mAt ms (r.th - 1).toNat).t.kind) = false) (h2 : ((need0 q.kind && !r.rd) || (need1 q.kind && !r.wr)) = true) : chk1m ms q r = true := by unfold chk1m; rw [h, Bool.false_or]; exact h2
theorem exam_n {ms : List MTh} {r : Rt} (h : (decide (r.th = 0) || !kindFor q.kind (mAt ms (r.th - 1).toNat).t.kind) = false) (h2 : ((need0 q.kind && !r.rd) || (need1 q.kind && !r.wr)) = false) : chk1m ms q r = false := by unfold chk1m; rw [h, Bool.false_or]; exact h2
theorem gone_or {x : Int} (h : ((!decide (x = -3)) && (!decide (x = 0))) = false) : x = -3 ∨ x = 0 := by
  by_cases h1 : x = -3
  · exact Or.inl h1
  · by_cases h2 : x = 0
    · exact Or.inr h2
    · simp [h1, h2] at h
theorem kindAt_mk {ms : List MTh} {k kd : Int} (h1 : 1 ≤ k ∧ k ≤ (ms.length : Int)) (h2 : (mAt ms (k - 1).toNat).t.kind = kd) : kindAt (tabT ms) k kd = true := by
  rw [← kindAt_m, Bool.and_eq_true]
  exact ⟨inR_iff.2 h1, decide_eq_true h2⟩
theorem rw_b {a b c d : Bool} {k : Int} (h : (a = true ∧ b = true) ∧ (k = 7 → c = true ∧ d = true)) : ((a && b) && ((!decide (k = 7)) || (c && d))) = true := by
  obtain ⟨⟨rfl, rfl⟩, h3⟩ := h
  by_cases h7 : k = 7
  · obtain ⟨rfl, rfl⟩ := h3 h7
    simp
  · simp [h7]
theorem gone_b {x : Int} {s l : Bool} (h : (decide (x = 0) = true ∧ (l = true ∨ s = false)) ∨ (decide (x = -3) = true ∧ s = true ∧ l = false)) : ((decide (x = 0) && (l || !s)) || ((decide (x = (-3)) && s) && !l)) = true := by
  rcases h with ⟨h1, rfl | rfl⟩ | ⟨h1, rfl, rfl⟩
  · simp [h1]
  · simp [h1]
  · simp [h1]
theorem up_no {ms : List MTh} {k : Nat} (hT : tableOk (tabT ms) = true) (hc : callOk q = true) (hr : kindAt (tabT ms) q.run 3 = true) (hk : k < 4) (h0 : ¬ (rAt (mAt ms (q.run - 1).toNat).t.slots k).th = 0) (h1 : (mAt ms ((rAt (mAt ms (q.run - 1).toNat).t.slots k).th - 1).toNat).t.kind = 1)
    (h : ((((rAt (mAt ms (q.run - 1).toNat).t.slots k).rd && (!chkSees (tabT ms) q.run (rAt (mAt ms (q.run - 1).toNat).t.slots k).th)) && (!decide (chkAll (tabT ms) ⟨1, q.run, (k : Int), 0, 0⟩ = (-2)))) || (((rAt (mAt ms (q.run - 1).toNat).t.slots k).wr && (!chkTouches (tabT ms) q.run (rAt (mAt ms (q.run - 1).toNat).t.slots k).th)) && (!decide (chkAll (tabT ms) ⟨2, q.run, (k : Int), 0, 0⟩ = (-2))))) = true) : False := by
  have es : rAt (mAt ms (q.run - 1).toNat).t.slots k = slotAt (tabT ms) q.run (k : Int) := slotAt_m (j := (k : Int))
  rw [es] at h0 h1 h
  rw [mAt_th] at h1
  have e := read_up hT hc hr (j := (k : Int)) ⟨by omega, by omega⟩ h0 h1
  simp only [Bool.or_eq_true, Bool.and_eq_true, Bool.not_eq_true', decide_eq_false_iff_not] at h
  rcases h with ⟨⟨a1, a2⟩, a3⟩ | ⟨⟨a1, a2⟩, a3⟩
  · exact a3 (e.1 a1 a2)
  · exact a3 (e.2 a1 a2)
theorem right_z {r : Rt} (h : rightOk r = true) (h0 : decide (r.th = 0) = true) : r = Rt.zero := by
  rw [← rightOk_z h0] at h
  exact of_decide_eq_true h
theorem set_get_ne {ms : List MTh} {i j : Nat} {m : MTh} (hi : i < ms.length) (hne : ¬ j = i) : (ms.set j m)[i]? = some (mAt ms i) := by
  rw [List.getElem?_set_ne hne]
  exact mAt_get hi
theorem mAt_sne {ms : List MTh} {i j : Nat} {m : MTh} {α : Type} {f : MTh → α} (hi : i < ms.length) (hne : ¬ j = i) : f (mAt ms i) = f (mAt (ms.set j m) i) := by
  have h := set_get_ne (m := m) hi hne
  have h2 := mAt_get (ms := ms.set j m) (i := i) (by rw [List.length_set]; exact hi)
  rw [h] at h2
  rw [Option.some.inj h2]
end
end Go.Dw
