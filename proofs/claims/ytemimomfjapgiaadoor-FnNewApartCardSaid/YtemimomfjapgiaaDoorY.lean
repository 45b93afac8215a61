/-
  The plain law of calls.
-/
import Derived.Test.YtemimomfjapgiaaDoorF
namespace Go.Dw
def Cl.zero : Cl := ⟨0, 0, 0, 0, 0⟩
def cAt (xs : List Cl) (i : Nat) : Cl := xs.getD i Cl.zero
theorem cAt_get {xs : List Cl} {i : Nat} (h : i < xs.length) : xs[i]? = some (cAt xs i) := by
  unfold cAt
  rw [List.getD_eq_getElem?_getD, List.getElem?_eq_getElem h]
  rfl
def callOk (c : Cl) : Bool := (((inR c.kind 1 9 && inR c.run 1 8) && inR c.a 0 3) && inR c.b 0 3) && inR c.n 0 99
theorem callOk_iff {c : Cl} (h : callOk c = true) : (1 ≤ c.kind ∧ c.kind ≤ 9) ∧ (1 ≤ c.run ∧ c.run ≤ 8) ∧ (0 ≤ c.a ∧ c.a ≤ 3) ∧ (0 ≤ c.b ∧ c.b ≤ 3) ∧ 0 ≤ c.n ∧ c.n ≤ 99 := by
  unfold callOk at h
  simp only [Bool.and_eq_true] at h
  exact ⟨inR_iff.1 h.1.1.1.1, inR_iff.1 h.1.1.1.2, inR_iff.1 h.1.1.2, inR_iff.1 h.1.2, inR_iff.1 h.2⟩
def callIn (ts : List Th) (c : Cl) : Bool := callOk c && kindAt ts c.run 3
def callPoss (ts : List Th) (c : Cl) : Bool := (tableOk ts && callOk c) && kindAt ts c.run 3
theorem callPoss_t {ts : List Th} {c : Cl} (h : tableOk ts = true) : callPoss ts c = callIn ts c := by unfold callPoss callIn; rw [h, Bool.true_and]
def callsIn_ (ts : List Th) (cs : List Cl) : Bool := decide ((cs.length : Int) ≤ 40) && cs.all (callIn ts)
def scriptOk (ts : List Th) (cs : List Cl) : Bool := tableOk ts && callsIn_ ts cs
theorem callIn_s {ts : List Th} {c : Cl} : ((!callOk c) || (!kindAt ts c.run 3)) = !callIn ts c := by
  unfold callIn
  cases callOk c <;> cases kindAt ts c.run 3 <;> rfl
theorem calls_no {ts : List Th} {cs : List Cl} {k : Nat} {c : Cl} (hc : cs[k]? = some c) (h : callIn ts c = false) : callsIn_ ts cs = false := by
  unfold callsIn_
  rw [all_false_of hc h, Bool.and_false]
theorem calls_yes {ts : List Th} {cs : List Cl} {k : Nat} (h : (cs.take k).all (callIn ts) = true) (hk : cs.length ≤ k) : decide ((cs.length : Int) ≤ 40) = callsIn_ ts cs := by
  unfold callsIn_
  rw [all_of_take h hk, Bool.and_true]
theorem script_no1 {ts : List Th} {cs : List Cl} (h : ((!tableOk ts) || (decide (40 < (cs.length : Int)))) = true) : scriptOk ts cs = false := by
  unfold scriptOk callsIn_
  cases ht : tableOk ts with
  | false => rfl
  | true =>
    rw [ht] at h
    have h1 : 40 < (cs.length : Int) := of_decide_eq_true (by simpa using h)
    rw [decide_eq_false (by omega)]
    rfl
theorem script_no2 {ts : List Th} {cs : List Cl} {k : Nat} {c : Cl} (hc : cs[k]? = some c) (h : callPoss ts c = false) : scriptOk ts cs = false := by
  unfold scriptOk
  cases ht : tableOk ts with
  | false => rfl
  | true => rw [callPoss_t ht] at h; rw [calls_no hc h]; rfl
theorem script_yes {ts : List Th} {cs : List Cl} {k : Nat} (h0 : ((!tableOk ts) || (decide (40 < (cs.length : Int)))) = false) (h : (cs.take k).all (callPoss ts) = true) (hk : cs.length ≤ k) : scriptOk ts cs = true := by
  have h1 := all_of_take h hk
  cases ht : tableOk ts with
  | false => rw [ht] at h0; cases h0
  | true =>
    rw [ht] at h0
    have h2 : ¬ 40 < (cs.length : Int) := of_decide_eq_false (by simpa using h0)
    unfold scriptOk callsIn_
    have e : (fun c => callPoss ts c) = callIn ts := funext fun c => callPoss_t ht
    rw [show callPoss ts = callIn ts from e] at h1
    rw [h1, ht, decide_eq_true (by omega)]
    rfl
theorem script_parts {ts : List Th} {cs : List Cl} (h : scriptOk ts cs = true) : tableOk ts = true ∧ cs.length ≤ 40 ∧ ∀ k, k < cs.length → callOk (cAt cs k) = true ∧ kindAt ts (cAt cs k).run 3 = true := by
  unfold scriptOk callsIn_ at h
  simp only [Bool.and_eq_true, decide_eq_true_eq, List.all_eq_true] at h
  obtain ⟨h1, h2, h3⟩ := h
  refine ⟨h1, by omega, fun k hk => ?_⟩
  have := h3 _ (List.mem_of_getElem? (cAt_get hk))
  unfold callIn at this
  exact Bool.and_eq_true_iff.1 this
theorem script_run {ms : List MTh} {cs : List Cl} (h : scriptOk (tabT ms) cs = true) : ∀ k, k < cs.length → 1 ≤ (cAt cs k).run ∧ (cAt cs k).run ≤ (ms.length : Int) := fun k hk => by
  have h1 := ((script_parts h).2.2 k hk).2
  unfold kindAt at h1
  have h2 := inR_iff.1 (Bool.and_eq_true_iff.1 h1).1
  rwa [tabT_len] at h2
theorem script_s {ts : List Th} {cs : List Cl} {z : Bool} : ((!scriptOk ts cs) || (!z)) = (((!tableOk ts) || (!callsIn_ ts cs)) || (!z)) := by
  unfold scriptOk
  cases tableOk ts <;> cases callsIn_ ts cs <;> rfl
def lowOf (ts : List Th) (l : Lab) (c : Cl) : Bool := flow (thAt ts c.run).lab l
def quietOf (ts : List Th) (l : Lab) (c : Cl) : Bool := !((decide (c.kind = 9)) && (!lowOf ts l c))
def runQuiet (ts : List Th) (cs : List Cl) (l : Lab) : Bool := scriptOk ts cs && labelOk l && cs.all (quietOf ts l)
def runLow (ts : List Th) (cs : List Cl) (l : Lab) : List Cl := if scriptOk ts cs && labelOk l then cs.filter (lowOf ts l) else []
theorem quiet_no1 {ts : List Th} {cs : List Cl} {l : Lab} (h : ((!scriptOk ts cs) || (!labelOk l)) = true) : runQuiet ts cs l = false := by
  unfold runQuiet
  cases h1 : scriptOk ts cs <;> cases h2 : labelOk l <;> rw [h1, h2] at h <;> first | rfl | cases h
theorem quiet_no2 {ts : List Th} {cs : List Cl} {l : Lab} {k : Nat} {c : Cl} (hc : cs[k]? = some c) (h : quietOf ts l c = false) : runQuiet ts cs l = false := by
  unfold runQuiet
  rw [all_false_of hc h, Bool.and_false]
theorem quiet_yes {ts : List Th} {cs : List Cl} {l : Lab} {k : Nat} (h0 : ((!scriptOk ts cs) || (!labelOk l)) = false) (h : (cs.take k).all (quietOf ts l) = true) (hk : cs.length ≤ k) : runQuiet ts cs l = true := by
  unfold runQuiet
  rw [all_of_take h hk]
  cases h1 : scriptOk ts cs <;> cases h2 : labelOk l <;> rw [h1, h2] at h0 <;> first | rfl | cases h0
theorem low_m {ms : List MTh} {c : Cl} {l : Lab} : flow (mAt ms (c.run - 1).toNat).t.lab l = lowOf (tabT ms) l c := by unfold lowOf; rw [mAt_th]
theorem low_i {ms : List MTh} {c : Cl} {l : Lab} (ht : tableOk (tabT ms) = true) (hl : labelOk l = true) (h1 : 1 ≤ c.run) (h2 : c.run ≤ (ms.length : Int)) : labelFlow (mAt ms (c.run - 1).toNat).t.lab l = lowOf (tabT ms) l c := by
  rw [← low_m]
  unfold labelFlow
  rw [tab_lab ht (i := (c.run - 1).toNat) (by omega), hl]
  rfl
end Go.Dw
