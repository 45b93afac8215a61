/-
  The plain law: labels, rights, things, tables, calls as plain data, and what each function computes of them. No program in sight.
-/
import Derived.WalkKit
namespace Go.Dw

structure Lab where
  s : Int
  v : Int
  deriving DecidableEq
structure Rt where
  th : Int
  ve : Int
  rd : Bool
  wr : Bool
  wk : Bool
  deriving DecidableEq
def Rt.zero : Rt := ⟨0, 0, false, false, false⟩
def Rt.cells (r : Rt) : List Value := [.int .i64 r.th, .int .i64 r.ve, .bool r.rd, .bool r.wr, .bool r.wk]
def Lab.cells (l : Lab) : List Value := [.int .i64 l.s, .int .i64 l.v]
def inR (n lo hi : Int) : Bool := decide (lo ≤ n) && decide (n ≤ hi)
def labelOk (l : Lab) : Bool := inR l.s 0 3 && inR l.v 0 3
/-- marks of a are all among b's -/
def l1In (a b : Int) : Bool := decide (a % 2 ≤ b % 2) && decide (a / 2 ≤ b / 2)
def flow (a b : Lab) : Bool := l1In a.s b.s && l1In b.v a.v
def labelFlow (a b : Lab) : Bool := labelOk a && labelOk b && flow a b
theorem labelOk_iff (l : Lab) : labelOk l = true ↔ (0 ≤ l.s ∧ l.s ≤ 3) ∧ 0 ≤ l.v ∧ l.v ≤ 3 := by simp [labelOk, inR]
theorem within_eq (a b : Int) (ha : 0 ≤ a) (ha3 : a ≤ 3) (hb : 0 ≤ b) (hb3 : b ≤ 3) : decide (bits .andNot .u64 a b = 0) = l1In a b := by
  have h1 : a = 0 ∨ a = 1 ∨ a = 2 ∨ a = 3 := by omega
  have h2 : b = 0 ∨ b = 1 ∨ b = 2 ∨ b = 3 := by omega
  rcases h1 with rfl | rfl | rfl | rfl <;> rcases h2 with rfl | rfl | rfl | rfl <;> decide
theorem labelFlow_no {a b : Lab} (h : ((!labelOk a) || (!labelOk b)) = true) : labelFlow a b = false := by
  unfold labelFlow
  cases ha : labelOk a <;> cases hb : labelOk b <;> simp_all
theorem labelFlow_yes {a b : Lab} (ha : labelOk a = true) (hb : labelOk b = true) : (decide (bits .andNot .u64 a.s b.s = 0) && decide (bits .andNot .u64 b.v a.v = 0)) = labelFlow a b := by
  obtain ⟨⟨h1, h2⟩, h3, h4⟩ := (labelOk_iff a).1 ha
  obtain ⟨⟨h5, h6⟩, h7, h8⟩ := (labelOk_iff b).1 hb
  rw [within_eq _ _ h1 h2 h5 h6, within_eq _ _ h7 h8 h3 h4, labelFlow, ha, hb]
  rfl
def rightOk (r : Rt) : Bool := decide (r = Rt.zero) || (inR r.th 1 8 && inR r.ve 0 5 && !(r.wk && r.wr))
/-- a gives no more than b, both ok -/
def l2In (a b : Rt) : Bool := decide (a.th = 0) || (decide (a.th = b.th) && decide (a.ve = b.ve) && (!a.rd || b.rd) && (!a.wr || b.wr) && (a.wk || !b.wk))
def rightIn (a b : Rt) : Bool := rightOk a && rightOk b && l2In a b
def l2Less (r : Rt) (rd wr st : Bool) : Rt := if r.th = 0 then r else ⟨r.th, r.ve, r.rd && rd, r.wr && wr && st, r.wk || !st⟩
def rightLess (r : Rt) (rd wr st : Bool) : Rt := if rightOk r then l2Less r rd wr st else Rt.zero
theorem rightOk_z {r : Rt} (h : decide (r.th = 0) = true) : decide (r = Rt.zero) = rightOk r := by
  have h' : r.th = 0 := of_decide_eq_true h
  unfold rightOk inR
  simp [h']
theorem rightOk_n {r : Rt} (h : decide (r.th = 0) = false) : (inR r.th 1 8 && inR r.ve 0 5 && !(r.wk && r.wr)) = rightOk r := by
  have h' : ¬ r.th = 0 := of_decide_eq_false h
  have h2 : r ≠ Rt.zero := fun e => h' (by rw [e]; rfl)
  unfold rightOk
  simp [h2]
theorem l2Less_z {r : Rt} {a b c : Bool} (h : decide (r.th = 0) = true) : l2Less r a b c = r := by
  simp [l2Less, of_decide_eq_true h]
theorem l2Less_n {r : Rt} {a b c : Bool} (h : decide (r.th = 0) = false) : l2Less r a b c = ⟨r.th, r.ve, r.rd && a, r.wr && b && c, r.wk || !c⟩ := by
  simp [l2Less, of_decide_eq_false h]
theorem rightLess_t {r : Rt} {a b c : Bool} (h : rightOk r = true) : rightLess r a b c = l2Less r a b c := by simp [rightLess, h]
theorem rightLess_f {r : Rt} {a b c : Bool} (h : rightOk r = false) : rightLess r a b c = Rt.zero := by simp [rightLess, h]
/-- the rest of l2In, where a goes to something -/
def l2x (a b : Rt) : Bool := decide (a.th = b.th) && decide (a.ve = b.ve) && (!a.rd || b.rd) && (!a.wr || b.wr) && (a.wk || !b.wk)
theorem l2In_n {a b : Rt} (h : decide (a.th = 0) = false) : l2In a b = l2x a b := by
  have h' : ¬ a.th = 0 := of_decide_eq_false h
  simp [l2In, l2x, h']
theorem l2In_z {a b : Rt} (h : decide (a.th = 0) = true) : l2In a b = true := by simp [l2In, of_decide_eq_true h]
theorem l2In_f {a b : Rt} (ha : decide (a.th = 0) = false) (hb : decide (b.th = 0) = true) : l2In a b = false := by
  have h' : ¬ a.th = 0 := of_decide_eq_false ha
  have h2 := of_decide_eq_true hb
  simp [l2In, h2, h']
def reachIn (xs : List Rt) (r : Rt) : Bool := xs.all rightOk && (rightOk r && (xs.any (l2In r) || decide (r.th = 0)))
theorem take_any_succ {α : Type} {p : α → Bool} {l : List α} {k : Nat} {x : α} (h : (l.take k).any p = false) (hx : l[k]? = some x) (hp : p x = false) : (l.take (k + 1)).any p = false := by
  rw [List.take_add_one, List.any_append, h, hx]
  simp [hp]
theorem any_true_of {α : Type} {p : α → Bool} {l : List α} {k : Nat} {x : α} (hx : l[k]? = some x) (hp : p x = true) : l.any p = true :=
  List.any_eq_true.2 ⟨x, List.mem_of_getElem? hx, hp⟩
theorem any_of_take {α : Type} {p : α → Bool} {l : List α} {k : Nat} (h : (l.take k).any p = false) (hk : l.length ≤ k) : l.any p = false := by
  rwa [List.take_of_length_le hk] at h
theorem take_eq_succ {α : Type} {l m : List α} {k : Nat} {x y : α} (h : l.take k = m.take k) (hx : l[k]? = some x) (hy : m[k]? = some y) (e : x = y) : l.take (k + 1) = m.take (k + 1) := by
  rw [List.take_add_one, List.take_add_one, h, hx, hy, e]
theorem eq_of_take {α : Type} {l m : List α} {k : Nat} (h : l.take k = m.take k) (hl : l.length ≤ k) (hm : m.length ≤ k) : l = m := by
  rwa [List.take_of_length_le hl, List.take_of_length_le hm] at h
theorem ne_of_at {α : Type} {l m : List α} {k : Nat} {x y : α} (hx : l[k]? = some x) (hy : m[k]? = some y) (e : ¬ x = y) : ¬ l = m := fun h => e (by
  rw [h, hy] at hx
  exact (Option.some.inj hx).symm)
theorem any_congr {α : Type} {p q : α → Bool} {l : List α} (h : ∀ x ∈ l, p x = q x) : l.any p = l.any q := by
  induction l with
  | nil => rfl
  | cons x l ih => simp only [List.any_cons]; rw [h x (by simp), ih fun y hy => h y (by simp [hy])]
theorem any_rightIn {xs : List Rt} {r : Rt} (hx : xs.all rightOk = true) (hr : rightOk r = true) : xs.any (rightIn r) = xs.any (l2In r) :=
  any_congr fun x hm => by simp [rightIn, hr, List.all_eq_true.1 hx x hm]
/-! ### things -/
structure Th where
  kind : Int
  lab : Lab
  ve : Int
  num : Int
  slots : List Rt
  queue : List Int
  to : Int
  deriving DecidableEq
/-- A thing as it lies in memory: where its slots and its queue are. -/
structure MTh where
  t : Th
  sa : Option Addr
  sc : Nat
  qa : Option Addr
  qc : Nat
structure Cl where
  kind : Int
  run : Int
  a : Int
  b : Int
  n : Int
  deriving DecidableEq
def Cl.cells (c : Cl) : List Value := [.int .i64 c.kind, .int .i64 c.run, .int .i64 c.a, .int .i64 c.b, .int .i64 c.n]
def icell (n : Int) : List Value := [.int .i64 n]
def MTh.cells (m : MTh) : List Value :=
  [.int .i64 m.t.kind, .int .i64 m.t.lab.s, .int .i64 m.t.lab.v, .int .i64 m.t.ve, .int .i64 m.t.num, .slice m.sa m.t.slots.length m.sc, .slice m.qa m.t.queue.length m.qc, .int .i64 m.t.to]
def isK (k a : Int) : Bool := decide (k = a)
def versOk (t : Th) : Bool := if t.kind = 1 ∨ t.kind = 2 ∨ t.kind = 4 then inR t.ve 0 5 else decide (t.ve = 0)
def numOk (t : Th) : Bool := if t.kind = 1 ∨ t.kind = 5 then inR t.num 0 99 else if t.kind = 3 then inR t.num (-4) 99 else decide (t.num = 0)
def slotsOk (t : Th) : Bool := if t.kind = 2 ∨ t.kind = 3 then decide (t.slots.length = 4) && t.slots.all rightOk else decide (t.slots.length = 0)
def numQ (n : Int) : Bool := inR n 0 99
def queueOk (t : Th) : Bool := if t.kind = 4 then decide (t.queue.length ≤ 3) && t.queue.all numQ else decide (t.queue.length = 0)
def targetOk (t : Th) : Bool := if t.kind = 5 then inR t.to 1 8 else decide (t.to = 0)
def thingOk (t : Th) : Bool := inR t.kind 1 5 && labelOk t.lab && versOk t && numOk t && slotsOk t && queueOk t && targetOk t
theorem take_all_succ {α : Type} {p : α → Bool} {l : List α} {k : Nat} {x : α} (h : (l.take k).all p = true) (hx : l[k]? = some x) (hp : p x = true) : (l.take (k + 1)).all p = true := by
  rw [List.take_add_one, List.all_append, h, hx]
  simp [hp]
theorem all_false_of {α : Type} {p : α → Bool} {l : List α} {k : Nat} {x : α} (hx : l[k]? = some x) (hp : p x = false) : l.all p = false := by
  cases h : l.all p with
  | false => rfl
  | true => rw [List.all_eq_true.1 h x (List.mem_of_getElem? hx)] at hp; cases hp
theorem all_of_take {α : Type} {p : α → Bool} {l : List α} {k : Nat} (h : (l.take k).all p = true) (hk : l.length ≤ k) : l.all p = true := by
  rwa [List.take_of_length_le hk] at h
theorem any_acc {α : Type} {p : α → Bool} {l : List α} {k : Nat} {x : α} {c c0 : Bool} (h : c = (c0 || (l.take k).any p)) (hx : l[k]? = some x) : (c || p x) = (c0 || (l.take (k + 1)).any p) := by
  rw [List.take_add_one, List.any_append, hx, h]
  simp [Bool.or_assoc]
theorem reach_law {xs : List Rt} {r : Rt} (hx : xs.all rightOk = true) : reachIn xs r = ((decide (r.th = 0) || xs.any (rightIn r)) && rightOk r) := by
  cases hr : rightOk r with
  | false => simp [reachIn, hr]
  | true => rw [any_rightIn hx hr]; simp [reachIn, hx, hr, Bool.or_comm]
theorem reach_bad {xs : List Rt} {r x : Rt} {k : Nat} (hx : xs[k]? = some x) (h : rightOk x = false) : reachIn xs r = false := by
  simp [reachIn, all_false_of hx h]
theorem slotsOk_n {t : Th} (h : (!decide (t.kind = 2) && !decide (t.kind = 3)) = true) : slotsOk t = decide ((t.slots.length : Int) = 0) := by
  have h' : ¬ (t.kind = 2 ∨ t.kind = 3) := by simp at h; omega
  unfold slotsOk
  rw [if_neg h', decide_eq_decide]
  omega
theorem slotsOk_y {t : Th} (h : (!decide (t.kind = 2) && !decide (t.kind = 3)) = false) : slotsOk t = (decide ((t.slots.length : Int) = 4) && t.slots.all rightOk) := by
  have h' : t.kind = 2 ∨ t.kind = 3 := by simp at h; omega
  unfold slotsOk
  rw [if_pos h']
  congr 1
  rw [decide_eq_decide]
  omega
end Go.Dw
