/-
  The plain law of what is told of a call ahead of it.
-/
import Derived.Test.YtemimomfjapgiaaDoorY
import Derived.Test.YtemimomfjapgiaaDoorE
namespace Go.Dw
def sees (ts : List Th) (run thing : Int) : Bool := flow (thAt ts thing).lab (thAt ts run).lab
def touches (ts : List Th) (run thing : Int) : Bool := flow (thAt ts run).lab (thAt ts thing).lab
theorem sees_m {ms : List MTh} {run thing : Int} : flow (mAt ms (thing - 1).toNat).t.lab (mAt ms (run - 1).toNat).t.lab = sees (tabT ms) run thing := by unfold sees; rw [mAt_th, mAt_th]
theorem touches_m {ms : List MTh} {run thing : Int} : flow (mAt ms (run - 1).toNat).t.lab (mAt ms (thing - 1).toNat).t.lab = touches (tabT ms) run thing := by unfold touches; rw [mAt_th, mAt_th]
def kindFor (c k : Int) : Bool :=
  if c = 1 ∨ c = 2 then decide (k = 1) else if c = 4 ∨ c = 5 then decide (k = 2) else if c = 6 ∨ c = 7 then decide (k = 4) else if c = 9 then decide (k = 5) else (decide (k = 1) || decide (k = 2)) || decide (k = 4)
def need0 (c : Int) : Bool := if c = 1 ∨ c = 4 then true else if c = 7 then true else false
def need1 (c : Int) : Bool := if c = 1 ∨ c = 4 then false else true
def live (ts : List Th) (r : Rt) : Bool := inR r.th 1 (ts.length : Int) && decide ((thAt ts r.th).ve = r.ve)
theorem live_m {ms : List MTh} {r : Rt} : (inR r.th 1 (ms.length : Int) && decide ((mAt ms (r.th - 1).toNat).t.ve = r.ve)) = live (tabT ms) r := by unfold live; rw [mAt_th, tabT_len]
def slotAt (ts : List Th) (k j : Int) : Rt := rAt (thAt ts k).slots j.toNat
theorem slotAt_m {ms : List MTh} {k j : Int} : rAt (mAt ms (k - 1).toNat).t.slots j.toNat = slotAt (tabT ms) k j := by unfold slotAt; rw [mAt_th]
def chk1 (ts : List Th) (q : Cl) (r : Rt) : Bool := (((decide (r.th = 0)) || (!kindFor q.kind (thAt ts r.th).kind)) || (need0 q.kind && !r.rd)) || (need1 q.kind && !r.wr)
def chk1m (ms : List MTh) (q : Cl) (r : Rt) : Bool := (((decide (r.th = 0)) || (!kindFor q.kind (mAt ms (r.th - 1).toNat).t.kind)) || (need0 q.kind && !r.rd)) || (need1 q.kind && !r.wr)
theorem chk1_m {ms : List MTh} {q : Cl} {r : Rt} : chk1m ms q r = chk1 (tabT ms) q r := by unfold chk1m chk1; rw [mAt_th]
def chk2 (ts : List Th) (q : Cl) (r : Rt) : Bool := (need0 q.kind && !sees ts q.run r.th) || (need1 q.kind && !touches ts q.run r.th)
def chk3 (ts : List Th) (q : Cl) (r : Rt) : Bool := sees ts q.run r.th && !live ts r
def check1 (ts : List Th) (q : Cl) : Int :=
  if q.kind = 3 then 0 else if chk1 ts q (slotAt ts q.run q.a) = true then -1 else if chk2 ts q (slotAt ts q.run q.a) = true then -2 else if chk3 ts q (slotAt ts q.run q.a) = true then -3 else 0
section
variable {ms : List MTh} {q : Cl}
theorem check_copy (h : decide (q.kind = 3) = true) : (0 : Int) = check1 (tabT ms) q := by unfold check1; rw [if_pos (of_decide_eq_true h)]
theorem check_1 (h : decide (q.kind = 3) = false) (h1 : chk1m ms q (rAt (mAt ms (q.run - 1).toNat).t.slots q.a.toNat) = true) : (-1 : Int) = check1 (tabT ms) q := by
  rw [chk1_m, slotAt_m] at h1
  unfold check1
  rw [if_neg (of_decide_eq_false h), if_pos h1]
theorem check_2 (h : decide (q.kind = 3) = false) (h1 : chk1m ms q (rAt (mAt ms (q.run - 1).toNat).t.slots q.a.toNat) = false) (h2 : chk2 (tabT ms) q (rAt (mAt ms (q.run - 1).toNat).t.slots q.a.toNat) = true) : (-2 : Int) = check1 (tabT ms) q := by
  rw [chk1_m, slotAt_m] at h1
  rw [slotAt_m] at h2
  unfold check1
  rw [if_neg (of_decide_eq_false h), if_neg (by rw [h1]; exact Bool.false_ne_true), if_pos h2]
theorem check_3 (h : decide (q.kind = 3) = false) (h1 : chk1m ms q (rAt (mAt ms (q.run - 1).toNat).t.slots q.a.toNat) = false) (h2 : chk2 (tabT ms) q (rAt (mAt ms (q.run - 1).toNat).t.slots q.a.toNat) = false) (h3 : chk3 (tabT ms) q (rAt (mAt ms (q.run - 1).toNat).t.slots q.a.toNat) = true) : (-3 : Int) = check1 (tabT ms) q := by
  rw [chk1_m, slotAt_m] at h1
  rw [slotAt_m] at h2 h3
  unfold check1
  rw [if_neg (of_decide_eq_false h), if_neg (by rw [h1]; exact Bool.false_ne_true), if_neg (by rw [h2]; exact Bool.false_ne_true), if_pos h3]
theorem check_0 (h : decide (q.kind = 3) = false) (h1 : chk1m ms q (rAt (mAt ms (q.run - 1).toNat).t.slots q.a.toNat) = false) (h2 : chk2 (tabT ms) q (rAt (mAt ms (q.run - 1).toNat).t.slots q.a.toNat) = false) (h3 : chk3 (tabT ms) q (rAt (mAt ms (q.run - 1).toNat).t.slots q.a.toNat) = false) : (0 : Int) = check1 (tabT ms) q := by
  rw [chk1_m, slotAt_m] at h1
  rw [slotAt_m] at h2 h3
  unfold check1
  rw [if_neg (of_decide_eq_false h), if_neg (by rw [h1]; exact Bool.false_ne_true), if_neg (by rw [h2]; exact Bool.false_ne_true), if_neg (by rw [h3]; exact Bool.false_ne_true)]
theorem tab_slot (h : tableOk (tabT ms) = true) {i j : Nat} (hi : i < ms.length) (hj : j < (mAt ms i).t.slots.length) : 0 ≤ (rAt (mAt ms i).t.slots j).th ∧ (rAt (mAt ms i).t.slots j).th ≤ (ms.length : Int) ∧ (rAt (mAt ms i).t.slots j).th ≤ 8 ∧ rightOk (rAt (mAt ms i).t.slots j) = true := by
  have h1 := tab_row h hi
  unfold rowOk at h1
  rw [Bool.and_eq_true] at h1
  have hr := List.all_eq_true.1 h1.2 _ (List.mem_of_getElem? (rAt_get hj))
  have hok := List.all_eq_true.1 (th_slots (Bool.and_eq_true_iff.1 h1.1).1) _ (List.mem_of_getElem? (rAt_get hj))
  have h8 := right_th hok
  refine ⟨h8.1, ?_, h8.2, hok⟩
  unfold rightTo at hr
  rw [Bool.or_eq_true] at hr
  rcases hr with h0 | h0
  · have := of_decide_eq_true h0
    omega
  · have := inR_iff.1 (Bool.and_eq_true_iff.1 h0).1
    rw [tabT_len] at this
    omega
theorem kindAt_parts {k kd : Int} (h : kindAt (tabT ms) k kd = true) : (1 ≤ k ∧ k ≤ (ms.length : Int)) ∧ (mAt ms (k - 1).toNat).t.kind = kd := by
  rw [← kindAt_m] at h
  rw [Bool.and_eq_true] at h
  exact ⟨inR_iff.1 h.1, of_decide_eq_true h.2⟩
theorem th_four {t : Th} (h : thingOk t = true) (hk : t.kind = 2 ∨ t.kind = 3) : t.slots.length = 4 := by
  have h5 := (thingOk_parts h).2.2.2.2.1
  unfold slotsOk at h5
  rw [if_pos hk] at h5
  exact of_decide_eq_true (Bool.and_eq_true_iff.1 h5).1
theorem run_slots (hT : tableOk (tabT ms) = true) {k : Int} (h : kindAt (tabT ms) k 3 = true) : (mAt ms (k - 1).toNat).t.slots.length = 4 := by
  have h1 := kindAt_parts h
  exact th_four (tab_thing hT (by omega)) (Or.inr h1.2)
end
end Go.Dw
