/-
  The plain law of things and tables.
-/
import Derived.Test.YtemimomfjapgiaaDoorR
namespace Go.Dw
def thA (t : Th) : Bool := (((!inR t.kind 1 5) || (!labelOk t.lab)) || (!inR t.ve 0 5)) || (decide (3 < (t.queue.length : Int)))
def thB (t : Th) : Bool := ((!inR t.num (if t.kind = 3 then (-4) else 0) 99) || ((!(decide (t.num = 0))) && ((decide (t.kind = 2)) || (decide (t.kind = 4))))) || ((!(decide (t.ve = 0))) && ((decide (t.kind = 3)) || (decide (t.kind = 5))))
def thD (t : Th) : Bool := (((decide (t.kind = 2)) || (decide (t.kind = 3))) && (!(decide ((t.slots.length : Int) = 4)))) || ((!((decide (t.kind = 2)) || (decide (t.kind = 3)))) && (!(decide ((t.slots.length : Int) = 0))))
def thE (t : Th) : Bool := ((decide (t.kind = 4)) || (decide ((t.queue.length : Int) = 0))) && (((decide (t.kind = 5)) && inR t.to 1 8) || ((!(decide (t.kind = 5))) && (decide (t.to = 0))))
theorem thingOk_eq (t : Th) : thingOk t = (!thA t && !thB t && t.queue.all numQ && t.slots.all rightOk && !thD t && thE t) := by
  have hl : (t.queue.length : Int) = 0 → t.queue.all numQ = true := fun h => by
    have : t.queue = [] := List.eq_nil_of_length_eq_zero (by omega)
    simp [this]
  have hr : (t.slots.length : Int) = 0 → t.slots.all rightOk = true := fun h => by
    have : t.slots = [] := List.eq_nil_of_length_eq_zero (by omega)
    simp [this]
  obtain ⟨k, l, ve, num, slots, queue, to⟩ := t
  simp only at hl hr
  unfold thingOk thA thB thD thE versOk numOk slotsOk queueOk targetOk inR
  simp only
  generalize labelOk l = L
  generalize slots.all rightOk = R at *
  generalize queue.all numQ = Q at *
  generalize queue.length = ql at *
  generalize slots.length = sl at *
  by_cases h1 : k = 1
  · subst h1
    rw [Bool.eq_iff_iff]
    cases L <;> cases R <;> cases Q <;> simp at hl hr ⊢ <;> omega
  by_cases h2 : k = 2
  · subst h2
    rw [Bool.eq_iff_iff]
    cases L <;> cases R <;> cases Q <;> simp at hl hr ⊢ <;> omega
  by_cases h3 : k = 3
  · subst h3
    rw [Bool.eq_iff_iff]
    cases L <;> cases R <;> cases Q <;> simp at hl hr ⊢ <;> omega
  by_cases h4 : k = 4
  · subst h4
    rw [Bool.eq_iff_iff]
    cases L <;> cases R <;> cases Q <;> simp at hl hr ⊢ <;> omega
  by_cases h5 : k = 5
  · subst h5
    rw [Bool.eq_iff_iff]
    cases L <;> cases R <;> cases Q <;> simp at hl hr ⊢ <;> omega
  have h6 : (decide (1 ≤ k) && decide (k ≤ 5)) = false := by simp; omega
  simp [h6]
theorem th_a {t : Th} (h : thA t = true) : false = thingOk t := by rw [thingOk_eq, h]; rfl
theorem th_b {t : Th} (h : thB t = true) : false = thingOk t := by rw [thingOk_eq, h]; simp
theorem th_d {t : Th} (h : thD t = true) : false = thingOk t := by rw [thingOk_eq, h]; simp
theorem th_q {t : Th} {k : Nat} {x : Int} (hx : t.queue[k]? = some x) (h : inR x 0 99 = false) : false = thingOk t := by
  rw [thingOk_eq, all_false_of (p := numQ) hx h]; simp
theorem th_r {t : Th} {k : Nat} {x : Rt} (hx : t.slots[k]? = some x) (h : rightOk x = false) : false = thingOk t := by
  rw [thingOk_eq, all_false_of (p := rightOk) hx h]; simp
theorem th_e {t : Th} (ha : thA t = false) (hb : thB t = false) (hq : t.queue.all numQ = true) (hr : t.slots.all rightOk = true) (hd : thD t = false) : thE t = thingOk t := by
  rw [thingOk_eq, ha, hb, hq, hr, hd]; rfl
/-! ### a thing anew -/
def Th.zero : Th := ⟨0, ⟨0, 0⟩, 0, 0, [], [], 0⟩
def has4 (k : Int) : Bool := decide (k = 2) || decide (k = 3)
def zeros4 : List Rt := [Rt.zero, Rt.zero, Rt.zero, Rt.zero]
theorem zeros4_get {k : Nat} (h : k < 4) : zeros4[k]? = some Rt.zero := by
  match k, h with
  | 0, _ => rfl
  | 1, _ => rfl
  | 2, _ => rfl
  | 3, _ => rfl
def newTh (k : Int) (l : Lab) (to : Int) : Th := ⟨k, l, 0, 0, if has4 k = true then zeros4 else [], [], to⟩
def newOk (k : Int) (l : Lab) (to : Int) : Bool := thingOk (newTh k l to)
def thingNew (k : Int) (l : Lab) (to : Int) : Th := if newOk k l to = true then newTh k l to else Th.zero
theorem newOk_y {k to : Int} {l : Lab} (h : has4 k = true) : newOk k l to = thingOk ⟨k, l, 0, 0, zeros4, [], to⟩ := by unfold newOk newTh; rw [if_pos h]
theorem newOk_n {k to : Int} {l : Lab} (h : has4 k = false) : newOk k l to = thingOk ⟨k, l, 0, 0, [], [], to⟩ := by unfold newOk newTh; rw [if_neg (by rw [h]; exact Bool.false_ne_true)]
theorem th_ext {a b : Th} (h1 : a.kind = b.kind) (h2 : a.lab = b.lab) (h3 : a.ve = b.ve) (h4 : a.num = b.num) (h5 : a.slots = b.slots) (h6 : a.queue = b.queue) (h7 : a.to = b.to) : a = b := by
  obtain ⟨a1, a2, a3, a4, a5, a6, a7⟩ := a
  obtain ⟨b1, b2, b3, b4, b5, b6, b7⟩ := b
  simp only at h1 h2 h3 h4 h5 h6 h7
  subst h1 h2 h3 h4 h5 h6 h7
  rfl
theorem newOk_gate {k to : Int} {l : Lab} (h : newOk k l to = true) : decide (decide (k = 5) = decide (0 < to)) = true := by
  unfold newOk thingOk at h
  have h2 := (Bool.and_eq_true_iff.1 h).2
  unfold targetOk newTh inR at h2
  simp only at h2
  split at h2
  · rename_i h5
    have h3 := of_decide_eq_true (Bool.and_eq_true_iff.1 h2).1
    simp [h5]; omega
  · rename_i h5
    have h3 := of_decide_eq_true h2
    simp [h5, h3]
/-! ### marks -/
abbrev mkRt (n : Int) : Rt := ⟨n, n + 1, decide ((n + 1 + 1) % 3 = 0), decide ((n + 1 + 1 + 1) % 3 = 0), decide ((n + 1 + 1 + 1 + 1) % 3 = 0)⟩
def markR (m : Int) (xs : List Rt) (k : Nat) : List Rt := (List.range k).map (fun i : Nat => mkRt (m + 5 * (i : Int))) ++ xs.drop k
theorem markR_len {m : Int} {xs : List Rt} {k : Nat} (hk : k ≤ xs.length) : (markR m xs k).length = xs.length := by simp [markR]; omega
theorem markR_zero {m : Int} {xs : List Rt} : markR m xs 0 = xs := by simp [markR]
theorem markR_set {m : Int} {xs : List Rt} {k : Nat} (hk : k < xs.length) : (markR m xs k).set k (mkRt (m + 5 * (k : Int))) = markR m xs (k + 1) := by
  unfold markR
  rw [List.set_append_right _ _ (by simp), List.length_map, List.length_range, Nat.sub_self, List.drop_eq_getElem_cons hk, List.set_cons_zero, List.range_succ, List.map_append, List.append_assoc]
  rfl
theorem markR_all {m : Int} {xs : List Rt} {k : Nat} (hk : xs.length ≤ k) : markR m xs k = (List.range k).map (fun i : Nat => mkRt (m + 5 * (i : Int))) := by simp [markR, List.drop_eq_nil_of_le hk]
def markI (m : Int) (xs : List Int) (k : Nat) : List Int := (List.range k).map (fun i : Nat => m + (i : Int)) ++ xs.drop k
theorem markI_len {m : Int} {xs : List Int} {k : Nat} (hk : k ≤ xs.length) : (markI m xs k).length = xs.length := by simp [markI]; omega
theorem markI_zero {m : Int} {xs : List Int} : markI m xs 0 = xs := by simp [markI]
theorem markI_set {m : Int} {xs : List Int} {k : Nat} (hk : k < xs.length) : (markI m xs k).set k (m + (k : Int)) = markI m xs (k + 1) := by
  unfold markI
  rw [List.set_append_right _ _ (by simp), List.length_map, List.length_range, Nat.sub_self, List.drop_eq_getElem_cons hk, List.set_cons_zero, List.range_succ, List.map_append, List.append_assoc]
  rfl
theorem markI_all {m : Int} {xs : List Int} {k : Nat} (hk : xs.length ≤ k) : markI m xs k = (List.range k).map (fun i : Nat => m + (i : Int)) := by simp [markI, List.drop_eq_nil_of_le hk]
theorem marks_get {m : Int} {n k : Nat} (h : k < n) : ((List.range n).map (fun i : Nat => mkRt (m + 5 * (i : Int))))[k]? = some (mkRt (m + 5 * (k : Int))) := by
  rw [List.getElem?_map, List.getElem?_range h]; rfl
theorem marksI_get {m : Int} {n k : Nat} (h : k < n) : ((List.range n).map (fun i : Nat => m + (i : Int)))[k]? = some (m + (k : Int)) := by
  rw [List.getElem?_map, List.getElem?_range h]; rfl
theorem marks_at {m : Int} {n k : Nat} {x : Rt} (h : ((List.range n).map (fun i : Nat => mkRt (m + 5 * (i : Int))))[k]? = some x) : x = mkRt (m + 5 * (k : Int)) := by
  rw [List.getElem?_map] at h
  cases hk : (List.range n)[k]? with
  | none => rw [hk] at h; cases h
  | some j =>
    rw [hk] at h
    obtain ⟨hl, e⟩ := List.getElem?_eq_some_iff.1 hk
    rw [List.getElem_range] at e
    subst e
    exact (Option.some.inj h).symm
theorem marksI_at {m : Int} {n k : Nat} {x : Int} (h : ((List.range n).map (fun i : Nat => m + (i : Int)))[k]? = some x) : x = m + (k : Int) := by
  rw [List.getElem?_map] at h
  cases hk : (List.range n)[k]? with
  | none => rw [hk] at h; cases h
  | some j =>
    rw [hk] at h
    obtain ⟨hl, e⟩ := List.getElem?_eq_some_iff.1 hk
    rw [List.getElem_range] at e
    subst e
    exact (Option.some.inj h).symm
end Go.Dw
