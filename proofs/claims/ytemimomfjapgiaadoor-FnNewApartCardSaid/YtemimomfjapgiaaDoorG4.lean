/-
  A table that was copied with its rows as they are; what is read, what is refused.
-/
import Derived.Test.YtemimomfjapgiaaDoorG3
namespace Go.Dw
set_option linter.unusedVariables false
set_option linter.unusedSimpArgs false
/-- Each row of a list is whole. -/
def RowsA (w : World) (l : List MTh) : Prop := ∀ m ∈ l, ThAt w m
theorem RowsA.of {w : World} {a : Option Addr} {l : List MTh} (h : TabAt w a l) : RowsA w l := h.2
theorem RowsA.set {w : World} {l : List MTh} {i : Nat} {m : MTh} (h : RowsA w l) (hi : i < l.length) (e : m.sa = (mAt l i).sa ∧ m.sc = (mAt l i).sc ∧ m.qa = (mAt l i).qa ∧ m.qc = (mAt l i).qc ∧ m.t.slots = (mAt l i).t.slots ∧ m.t.queue = (mAt l i).t.queue) : RowsA w (l.set i m) := fun x hx => by
  rcases List.mem_or_eq_of_mem_set hx with h1 | rfl
  · exact h x h1
  · have := h _ (List.mem_of_getElem? (mAt_get hi))
    unfold ThAt at this ⊢
    rw [e.1, e.2.1, e.2.2.1, e.2.2.2.1, e.2.2.2.2.1, e.2.2.2.2.2]
    exact this
theorem RowsA.setn {w : World} {l : List MTh} {i : Nat} {m : MTh} (h : RowsA w l) (hm : ThAt w m) : RowsA w (l.set i m) := fun x hx => by
  rcases List.mem_or_eq_of_mem_set hx with h1 | rfl
  · exact h x h1
  · exact hm
theorem tabAt_own {w : World} {Y T cap : Nat} {l : List MTh} (ho : Own w Y T 8 cap l.length (l.flatMap MTh.cells)) (h : RowsA w l) : TabAt w (some ⟨Y, 0, none⟩) l := ⟨Own.sl wide_mth ho, h⟩
theorem tab_some {w : World} {a : Option Addr} {l : List MTh} (h : TabAt w a l) (hn : 0 < l.length) : ¬ a = none := fun e => by
  obtain ⟨x, hx⟩ := get_lt hn
  obtain ⟨b, q, o, ha, _, _⟩ := SlAt.at h.1 (map_get hx)
  rw [e] at ha
  cases ha
theorem TabLen.setn {l : List MTh} {i : Nat} {m : MTh} (h : TabLen l) (hi : i < l.length) (e1 : m.t.slots = (mAt l i).t.slots) (e2 : m.t.queue = (mAt l i).t.queue) : TabLen (l.set i m) := fun x hx => by
  rcases List.mem_or_eq_of_mem_set hx with h1 | rfl
  · exact h x h1
  · rw [e1, e2]
    exact h _ (List.mem_of_getElem? (mAt_get hi))
theorem TabLen.put {l : List MTh} {i : Nat} {m : MTh} (h : TabLen l) (hm : m.t.slots.length ≤ 1048576 ∧ m.t.queue.length ≤ 1048576) : TabLen (l.set i m) := fun x hx => by
  rcases List.mem_or_eq_of_mem_set hx with h1 | rfl
  · exact h x h1
  · exact hm
theorem RowsA.setE {w : World} {L l : List MTh} {i : Nat} {m : MTh} (hL : L = l.set i m) (h : RowsA w l) (hi : i < l.length) (e : m.sa = (mAt l i).sa ∧ m.sc = (mAt l i).sc ∧ m.qa = (mAt l i).qa ∧ m.qc = (mAt l i).qc ∧ m.t.slots = (mAt l i).t.slots ∧ m.t.queue = (mAt l i).t.queue) : RowsA w L := hL ▸ RowsA.set h hi e
theorem RowsA.setnE {w : World} {L l : List MTh} {i : Nat} {m : MTh} (hL : L = l.set i m) (h : RowsA w l) (hm : ThAt w m) : RowsA w L := hL ▸ RowsA.setn h hm
theorem TabLen.setnE {L l : List MTh} {i : Nat} {m : MTh} (hL : L = l.set i m) (h : TabLen l) (hi : i < l.length) (e1 : m.t.slots = (mAt l i).t.slots) (e2 : m.t.queue = (mAt l i).t.queue) : TabLen L := hL ▸ TabLen.setn h hi e1 e2
theorem TabLen.putE {L l : List MTh} {i : Nat} {m : MTh} (hL : L = l.set i m) (h : TabLen l) (hm : m.t.slots.length ≤ 1048576 ∧ m.t.queue.length ≤ 1048576) : TabLen L := hL ▸ TabLen.put h hm
theorem calls_len {P : Program} {k : FuncId} {a : Option Addr} {c n m : Nat} {u : Value} {w : World} {R : Value → World → Prop} (h : m = n) (hc : CallsR P k #[.slice a m c, u] w R) : CallsR P k #[.slice a n c, u] w R := h ▸ hc
theorem own_or {Y b n : Nat} (h : (some ⟨Y, 0, none⟩ : Option Addr).map (·.block) = (some ⟨b, 0, none⟩ : Option Addr).map (·.block) ∨ (some ⟨Y, 0, none⟩ : Option Addr).map (·.block) = some n) : Y = b ∨ Y = n := by simpa using h
section
variable {ms xs : List MTh} {q : Cl}
theorem back_m (ht : tabT xs = (callDo (tabT ms) q).1) (hp : callPoss (tabT ms) q = true) (hpre : doPre (tabT ms) q = tabT ms) {m' : MTh} (h : m'.t = { (mAt xs (q.run - 1).toNat).t with num := (mAt ms (q.run - 1).toNat).t.num }) : tabT (xs.set (q.run - 1).toNat m') = tabT ms := by
  have hr := (kindAt_th (callPoss_parts hp).2.2).1
  have e : tabT xs = setNum (tabT ms) q.run (doAns (tabT ms) q) := by rw [ht, callDo_yes hp, doCall_1, hpre]
  rw [tabT_set, h, mAt_th, mAt_th, e]
  exact setNum_back hr
theorem read_m (ht : tabT xs = (callDo (tabT ms) q).1) (hp : callPoss (tabT ms) q = true) (h : ((!decide (q.kind = 1)) || decide ((callDo (tabT ms) q).2 < 0)) = false) :
    (1 ≤ (rAt (mAt ms (q.run - 1).toNat).t.slots q.a.toNat).th ∧ (rAt (mAt ms (q.run - 1).toNat).t.slots q.a.toNat).th ≤ (ms.length : Int)) ∧ (callDo (tabT ms) q).2 = (mAt ms ((rAt (mAt ms (q.run - 1).toNat).t.slots q.a.toNat).th - 1).toNat).t.num ∧ doPre (tabT ms) q = tabT ms := by
  simp only [Bool.or_eq_false_iff, Bool.not_eq_false', decide_eq_true_eq, decide_eq_false_iff_not] at h
  have ha : 0 ≤ doAns (tabT ms) q := by rw [← do_2 hp]; omega
  have hw := do_read hp h.1 ha
  have hf := found hp (ans_zero hp ha) (by omega)
  rw [tabT_len] at hf
  rw [slotAt_m, do_2 hp, mAt_th]
  exact ⟨hf.1, hw⟩
theorem refused_m (hp : callPoss (tabT ms) q = true) (h : decide (0 ≤ chkAll (tabT ms) q) = false) : (callDo (tabT ms) q).2 = chkAll (tabT ms) q ∧ doPre (tabT ms) q = tabT ms := by
  have h := of_decide_eq_false h
  rw [chkAll_yes hp] at h ⊢
  have := do_refused (ts := tabT ms) (q := q) (by omega)
  rw [do_2 hp]
  exact this
theorem passed_m (hp : callPoss (tabT ms) q = true) (h : decide (0 ≤ chkAll (tabT ms) q) = true) : (decide (0 ≤ (callDo (tabT ms) q).2) || decide ((callDo (tabT ms) q).2 = -4)) = true := by
  have h := of_decide_eq_true h
  rw [chkAll_yes hp] at h
  rw [do_2 hp]
  rcases (doAns_ans hp).1 with (h1 | h1) | h1
  · rw [decide_eq_true h1]; rfl
  · rw [decide_eq_true h1.1, Bool.or_true]
  · omega
end
end Go.Dw
