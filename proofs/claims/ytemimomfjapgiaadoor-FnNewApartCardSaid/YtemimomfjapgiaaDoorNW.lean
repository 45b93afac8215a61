/-
  A table with one more thing at its end: is it ok, its text. Plain lists, no program.
-/
import Derived.Test.YtemimomfjapgiaaDoorST
namespace Go.Dw
set_option linter.unusedVariables false
variable {ts : List Th} {t : Th}
theorem thAt_snoc {k : Int} (h0 : 1 ≤ k) (h : k ≤ (ts.length : Int)) : thAt (ts ++ [t]) k = thAt ts k := by
  unfold thAt
  rw [List.getD_eq_getElem?_getD, List.getD_eq_getElem?_getD, List.getElem?_append_left (by omega)]
theorem kindAt_snoc {k kd : Int} (h : kindAt ts k kd = true) : kindAt (ts ++ [t]) k kd = true := by
  unfold kindAt at h ⊢
  rw [Bool.and_eq_true] at h ⊢
  have h1 := inR_iff.1 h.1
  refine ⟨inR_iff.2 ⟨h1.1, by rw [List.length_append]; simp only [List.length_cons, List.length_nil]; omega⟩, ?_⟩
  rw [thAt_snoc h1.1 h1.2]
  exact h.2
theorem gateOk_snoc {x : Th} (h : gateOk ts x = true) : gateOk (ts ++ [t]) x = true := by
  unfold gateOk at h ⊢
  rw [Bool.or_eq_true] at h ⊢
  exact h.imp id kindAt_snoc
theorem rightTo_snoc {r : Rt} (h : rightTo ts r = true) : rightTo (ts ++ [t]) r = true := by
  unfold rightTo at h ⊢
  rw [Bool.or_eq_true, Bool.and_eq_true] at h ⊢
  refine h.imp id (fun h => ?_)
  have h1 := inR_iff.1 h.1
  refine ⟨inR_iff.2 ⟨h1.1, by rw [List.length_append]; simp only [List.length_cons, List.length_nil]; omega⟩, ?_⟩
  rw [thAt_snoc h1.1 h1.2]
  exact h.2
theorem rowOk_snoc {x : Th} (h : rowOk ts x = true) : rowOk (ts ++ [t]) x = true := by
  unfold rowOk at h ⊢
  rw [Bool.and_eq_true, Bool.and_eq_true] at h ⊢
  refine ⟨⟨h.1.1, gateOk_snoc h.1.2⟩, ?_⟩
  rw [List.all_eq_true] at h ⊢
  exact fun r hr => rightTo_snoc (h.2 r hr)
theorem tableOk_snoc (h : tableOk ts = true) (hl : ts.length < 8) : tableOk (ts ++ [t]) = rowOk (ts ++ [t]) t := by
  rw [tableOk_rows] at h ⊢
  rw [Bool.and_eq_true, List.all_eq_true] at h
  rw [inR_iff.2 (show 1 ≤ ((ts ++ [t]).length : Int) ∧ ((ts ++ [t]).length : Int) ≤ 8 by have := inR_iff.1 h.1; rw [List.length_append]; simp only [List.length_cons, List.length_nil]; omega), Bool.true_and, List.all_append,
    List.all_eq_true.2 (fun x hx => rowOk_snoc (h.2 x hx)), Bool.true_and]
  simp
theorem ttx_snoc : ∀ {k : Nat}, k ≤ ts.length → ttx (ts ++ [t]) k = ttx ts k := by
  intro k
  induction k with
  | zero => intro _; rfl
  | succ k ih =>
    intro h
    unfold ttx
    rw [ih (by omega), List.getD_eq_getElem?_getD, List.getD_eq_getElem?_getD, List.getElem?_append_left (by omega)]
theorem tabtx_snoc (h : tableOk ts = true) (h2 : tableOk (ts ++ [t]) = true) : tabtx (ts ++ [t]) = tabtx ts ++ ((dec ((ts.length : Int) + 1) ++ [32]) ++ thtx t) := by
  unfold tabtx
  rw [if_pos h, if_pos h2, List.length_append]
  show ttx (ts ++ [t]) (ts.length + 1) = _
  rw [ttx, ttx_snoc (Nat.le_refl _), List.getD_eq_getElem?_getD, List.getElem?_append_right (Nat.le_refl _)]
  simp
theorem tabtx_ne (h : tableOk ts = true) : tabtx ts ≠ [] := by
  unfold tabtx
  rw [if_pos h]
  rw [tableOk_rows, Bool.and_eq_true] at h
  have h1 := inR_iff.1 h.1
  obtain ⟨k, hk⟩ : ∃ k, ts.length = k + 1 := ⟨ts.length - 1, by omega⟩
  rw [hk, ttx]
  simp
theorem new_ok {k : Int} {l : Lab} (hk : 1 ≤ k ∧ k ≤ 4) (hl : labelOk l = true) : thingOk (newTh k l 0) = true := by
  have h1 : k = 1 ∨ k = 2 ∨ k = 3 ∨ k = 4 := by omega
  rcases h1 with rfl | rfl | rfl | rfl <;> simp [thingOk, newTh, has4, hl, versOk, numOk, slotsOk, queueOk, targetOk, inR, zeros4, rightOk]
theorem new_ok5 {k : Int} {l : Lab} (hk : 1 ≤ k ∧ k ≤ 8) (hl : labelOk l = true) : thingOk (newTh 5 l k) = true := by
  simp [thingOk, newTh, has4, hl, versOk, numOk, slotsOk, queueOk, targetOk, inR]
  omega
theorem new_slots {us : List Th} {k to : Int} {l : Lab} : (newTh k l to).slots.all (rightTo us) = true := by
  unfold newTh
  by_cases h : has4 k = true
  · rw [if_pos h]
    simp [zeros4, rightTo, Rt.zero]
  · rw [if_neg h]
    rfl
/-- A thing of a kind below the gate goes on at the end of whatever table. -/
theorem table_new {k : Int} {l : Lab} (h : tableOk ts = true) (hl : ts.length < 8) (hk : 1 ≤ k ∧ k ≤ 4) (hb : labelOk l = true) : tableOk (ts ++ [newTh k l 0]) = true := by
  rw [tableOk_snoc h hl]
  unfold rowOk
  rw [new_ok hk hb, new_slots, Bool.and_true, Bool.true_and]
  unfold gateOk
  rw [Bool.or_eq_true]
  exact Or.inl (by show (!(decide (k = 5))) = true; simp; omega)
/-- A gate to k: just where k is a page. -/
theorem table_gate {k : Int} {l : Lab} (h : tableOk ts = true) (hl : ts.length < 8) (hk : 1 ≤ k ∧ k ≤ (ts.length : Int)) (hb : labelOk l = true) : tableOk (ts ++ [newTh 5 l k]) = decide ((thAt ts k).kind = 1) := by
  rw [tableOk_snoc h hl]
  unfold rowOk
  rw [new_ok5 (by omega) hb, new_slots, Bool.and_true, Bool.true_and]
  unfold gateOk
  rw [show (newTh 5 l k).kind = 5 from rfl, show (newTh 5 l k).to = k from rfl, decide_eq_true rfl, Bool.not_true, Bool.false_or]
  unfold kindAt
  rw [thAt_snoc hk.1 hk.2, inR_iff.2 (show 1 ≤ k ∧ k ≤ ((ts ++ [newTh 5 l k]).length : Int) by rw [List.length_append]; simp only [List.length_cons, List.length_nil]; omega), Bool.true_and]
end Go.Dw
