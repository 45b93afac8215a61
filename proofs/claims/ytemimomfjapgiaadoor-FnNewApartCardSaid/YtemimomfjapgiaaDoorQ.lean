/-
  The plain law of tables.
-/
import Derived.Test.YtemimomfjapgiaaDoorN
namespace Go.Dw
def MTh.zero : MTh := ⟨Th.zero, none, 0, none, 0⟩
def mAt (ms : List MTh) (i : Nat) : MTh := ms.getD i MTh.zero
theorem mAt_get {ms : List MTh} {i : Nat} (h : i < ms.length) : ms[i]? = some (mAt ms i) := by
  unfold mAt
  rw [List.getD_eq_getElem?_getD, List.getElem?_eq_getElem h]
  rfl
def rAt (xs : List Rt) (i : Nat) : Rt := xs.getD i Rt.zero
theorem rAt_get {xs : List Rt} {i : Nat} (h : i < xs.length) : xs[i]? = some (rAt xs i) := by
  unfold rAt
  rw [List.getD_eq_getElem?_getD, List.getElem?_eq_getElem h]
  rfl
def iAt (xs : List Int) (i : Nat) : Int := xs.getD i 0
theorem iAt_get {xs : List Int} {i : Nat} (h : i < xs.length) : xs[i]? = some (iAt xs i) := by
  unfold iAt
  rw [List.getD_eq_getElem?_getD, List.getElem?_eq_getElem h]
  rfl
/-- The thing of a table that has a number. -/
def thAt (ts : List Th) (k : Int) : Th := ts.getD (k - 1).toNat Th.zero
def tabT (ms : List MTh) : List Th := ms.map (·.t)
theorem tabT_len (ms : List MTh) : (tabT ms).length = ms.length := List.length_map _
theorem mAt_t (ms : List MTh) (i : Nat) : (mAt ms i).t = (tabT ms).getD i Th.zero := by
  unfold mAt tabT
  rw [List.getD_eq_getElem?_getD, List.getD_eq_getElem?_getD, List.getElem?_map]
  cases ms[i]? <;> rfl
theorem mAt_th (ms : List MTh) (k : Int) : (mAt ms (k - 1).toNat).t = thAt (tabT ms) k := mAt_t ms _
def kindAt (ts : List Th) (k kd : Int) : Bool := inR k 1 (ts.length : Int) && decide ((thAt ts k).kind = kd)
def gateOk (ts : List Th) (t : Th) : Bool := !(decide (t.kind = 5)) || kindAt ts t.to 1
def rightTo (ts : List Th) (r : Rt) : Bool := decide (r.th = 0) || (inR r.th 1 (ts.length : Int) && decide (r.ve ≤ (thAt ts r.th).ve))
def tableOk (ts : List Th) : Bool := inR (ts.length : Int) 1 8 && (ts.all (fun t => thingOk t && gateOk ts t) && ts.all (fun t => t.slots.all (rightTo ts)))
theorem thingOk_parts {t : Th} (h : thingOk t = true) : inR t.kind 1 5 = true ∧ labelOk t.lab = true ∧ versOk t = true ∧ numOk t = true ∧ slotsOk t = true ∧ queueOk t = true ∧ targetOk t = true := by
  unfold thingOk at h
  simp only [Bool.and_eq_true] at h
  obtain ⟨⟨⟨⟨⟨⟨h1, h2⟩, h3⟩, h4⟩, h5⟩, h6⟩, h7⟩ := h
  exact ⟨h1, h2, h3, h4, h5, h6, h7⟩
theorem inR_iff {n lo hi : Int} : inR n lo hi = true ↔ lo ≤ n ∧ n ≤ hi := by simp [inR]
theorem th_gate {t : Th} (h : thingOk t = true) (hk : decide (t.kind = 5) = true) : 1 ≤ t.to ∧ t.to ≤ 8 := by
  have h7 := (thingOk_parts h).2.2.2.2.2.2
  unfold targetOk at h7
  rw [if_pos (of_decide_eq_true hk)] at h7
  exact inR_iff.1 h7
theorem th_slots {t : Th} (h : thingOk t = true) : t.slots.all rightOk = true := by
  rw [thingOk_eq] at h
  simp only [Bool.and_eq_true] at h
  exact h.1.1.2
theorem right_th {r : Rt} (h : rightOk r = true) : 0 ≤ r.th ∧ r.th ≤ 8 := by
  unfold rightOk at h
  simp only [Bool.or_eq_true, Bool.and_eq_true, decide_eq_true_eq] at h
  rcases h with rfl | ⟨⟨h1, _⟩, _⟩
  · exact ⟨by decide, by decide⟩
  · have := inR_iff.1 h1
    omega
theorem th_right {t : Th} {k : Nat} {r : Rt} (h : thingOk t = true) (hk : t.slots[k]? = some r) : 0 ≤ r.th ∧ r.th ≤ 8 :=
  right_th (List.all_eq_true.1 (th_slots h) r (List.mem_of_getElem? hk))
/-! one row of a table -/
def rowOk (ts : List Th) (t : Th) : Bool := (thingOk t && gateOk ts t) && t.slots.all (rightTo ts)
theorem tableOk_rows (ts : List Th) : tableOk ts = (inR (ts.length : Int) 1 8 && ts.all (rowOk ts)) := by
  unfold tableOk rowOk
  congr 1
  generalize rightTo ts = p
  rw [Bool.eq_iff_iff]
  simp only [Bool.and_eq_true, List.all_eq_true]
  exact ⟨fun h x hx => ⟨h.1 x hx, h.2 x hx⟩, fun h => ⟨fun x hx => (h x hx).1, fun x hx => (h x hx).2⟩⟩
theorem tab_at {ms : List MTh} {k : Nat} (h : k < ms.length) : (tabT ms)[k]? = some (mAt ms k).t := by
  unfold tabT
  rw [List.getElem?_map, mAt_get h]
  rfl
theorem tab_no {ms : List MTh} {k : Nat} (h : k < ms.length) (hr : rowOk (tabT ms) (mAt ms k).t = false) : false = tableOk (tabT ms) := by
  rw [tableOk_rows, all_false_of (p := rowOk (tabT ms)) (tab_at h) hr, Bool.and_false]
theorem tab_yes {ms : List MTh} {k : Nat} (h : (((tabT ms).take k).all (rowOk (tabT ms))) = true) (hk : ms.length ≤ k) : inR (ms.length : Int) 1 8 = tableOk (tabT ms) := by
  rw [tableOk_rows, all_of_take h (by rw [tabT_len]; exact hk), Bool.and_true, tabT_len]
/-- What the reference asks of a row ahead of its rights. -/
theorem row_head {ms : List MTh} {t : Th} {z : Bool} (hz : z = ((!thingOk t) || ((decide (t.kind = 5)) && ((decide ((ms.length : Int) < t.to)) || (!(decide ((mAt ms (t.to - 1).toNat).t.kind = 1))))))) :
    (z = true → rowOk (tabT ms) t = false) ∧ (z = false → thingOk t = true ∧ gateOk (tabT ms) t = true) := by
  subst hz
  cases ht : thingOk t with
  | false => simp [rowOk, ht]
  | true =>
    by_cases h5 : t.kind = 5
    · have hb := th_gate ht (decide_eq_true h5)
      simp only [rowOk, gateOk, kindAt, ht, h5, mAt_th, tabT_len, inR]
      by_cases hl : t.to ≤ (ms.length : Int)
      · have h1 : ¬ (ms.length : Int) < t.to := by omega
        by_cases hk : (thAt (tabT ms) t.to).kind = 1 <;> simp [h1, hl, hb.1, hk]
      · have h1 : (ms.length : Int) < t.to := by omega
        simp [h1, hl]
    · simp [gateOk, h5]
theorem row_right {ms : List MTh} {r : Rt} (h0 : 0 ≤ r.th) : ((decide ((ms.length : Int) < r.th)) || ((decide (0 < r.th)) && (decide ((mAt ms (r.th - 1).toNat).t.ve < r.ve)))) = !rightTo (tabT ms) r := by
  unfold rightTo inR
  rw [mAt_th, tabT_len, Bool.eq_iff_iff]
  simp
  omega
theorem row_no1 {ms : List MTh} {t : Th} {k : Nat} {r : Rt} (hr : t.slots[k]? = some r) (h : rightTo (tabT ms) r = false) : rowOk (tabT ms) t = false := by
  unfold rowOk
  rw [all_false_of hr h, Bool.and_false]
theorem row_yes {ms : List MTh} {t : Th} {j : Nat} (ht : thingOk t = true) (hg : gateOk (tabT ms) t = true) (h : ((t.slots.take j).all (rightTo (tabT ms))) = true) (hj : t.slots.length ≤ j) : rowOk (tabT ms) t = true := by
  unfold rowOk
  rw [ht, hg, all_of_take h hj]
  rfl
/-- How long what a table has is at most. -/
def TabLen (ms : List MTh) : Prop := ∀ m ∈ ms, m.t.slots.length ≤ 1048576 ∧ m.t.queue.length ≤ 1048576
theorem TabLen.at {ms : List MTh} (h : TabLen ms) {k : Nat} {m : MTh} (hk : ms[k]? = some m) : m.t.slots.length ≤ 1048576 ∧ m.t.queue.length ≤ 1048576 := h m (List.mem_of_getElem? hk)
end Go.Dw
