/- Laws and walks: my templates, and what a program of mine (gen.py) printed out of the functions; only what the row reaches. -/
import Derived.WalkKit
import Derived.Lib.Hide
import Derived.KernelRfl
import Derived.Orders
import Derived.Deep.MidRow
import Derived.IntWalk
import Derived.Laws.MakeOwn
import Derived.Maps.AppendAt
import Derived.Laws.OwnMore
import Derived.RangeFuncNested
import Derived.RangeFuncCalls
import Derived.RangeFuncLeaves
import Derived.RangeFuncBound
import Derived.Shelf.Abstract
import Derived.LoopIn
import Derived.LoopNIn
import Derived.OrdersIn
import Derived.LaidEql
import Derived.Stop.Asserts
import Derived.RowKitTokens
import Derived.ProofKit
import Derived.Deep.Slices
import Derived.Carry
import Derived.ChangeSame
import Derived.ChangeVars
import Derived.JoinedOf
import Derived.RowKit
import Derived.LaidLaws
import Derived.LaidHandle
import Derived.Stop.Joined
import Derived.Test.YtfoplmgoiblkgaaDoorProg
import Derived.Test.YtfoplmgoiblkgaaDoorTie
import Derived.Test.YtfoplmgoiblkgaaDoorCards
section
namespace Go.Dw
structure Lab where
  s : Int
  v : Int
  deriving DecidableEq
structure Rt where
  th : Int
  ve : Int
  rd : Bool
  wr : Bool
  wk : Bool
  deriving DecidableEq
def Rt.zero : Rt := ⟨0, 0, false, false, false⟩
def Rt.cells (r : Rt) : List Value := [.int .i64 r.th, .int .i64 r.ve, .bool r.rd, .bool r.wr, .bool r.wk]
def Lab.cells (l : Lab) : List Value := [.int .i64 l.s, .int .i64 l.v]
def inR (n lo hi : Int) : Bool := decide (lo ≤ n) && decide (n ≤ hi)
def labelOk (l : Lab) : Bool := inR l.s 0 3 && inR l.v 0 3
def l1In (a b : Int) : Bool := decide (a % 2 ≤ b % 2) && decide (a / 2 ≤ b / 2)
def flow (a b : Lab) : Bool := l1In a.s b.s && l1In b.v a.v
def labelFlow (a b : Lab) : Bool := labelOk a && labelOk b && flow a b
theorem Jr (l : Lab) : labelOk l = true ↔ (0 ≤ l.s ∧ l.s ≤ 3) ∧ 0 ≤ l.v ∧ l.v ≤ 3 := by simp [labelOk, inR]
theorem Wq (a b : Int) (ha : 0 ≤ a) (ha3 : a ≤ 3) (hb : 0 ≤ b) (hb3 : b ≤ 3) : decide (bits .andNot .u64 a b = 0) = l1In a b := by
  have h1 : a = 0 ∨ a = 1 ∨ a = 2 ∨ a = 3 := by omega
  have h2 : b = 0 ∨ b = 1 ∨ b = 2 ∨ b = 3 := by omega
  rcases h1 with rfl | rfl | rfl | rfl <;> rcases h2 with rfl | rfl | rfl | rfl <;> decide
theorem W2 {a b : Lab} (h : ((!labelOk a) || (!labelOk b)) = true) : labelFlow a b = false := by
  unfold labelFlow
  cases ha : labelOk a <;> cases hb : labelOk b <;> simp_all
theorem Wb {a b : Lab} (ha : labelOk a = true) (hb : labelOk b = true) : (decide (bits .andNot .u64 a.s b.s = 0) && decide (bits .andNot .u64 b.v a.v = 0)) = labelFlow a b := by
  obtain ⟨⟨h1, h2⟩, h3, h4⟩ := (Jr a).1 ha
  obtain ⟨⟨h5, h6⟩, h7, h8⟩ := (Jr b).1 hb
  rw [Wq _ _ h1 h2 h5 h6, Wq _ _ h7 h8 h3 h4, labelFlow, ha, hb]
  rfl
def rightOk (r : Rt) : Bool := decide (r = Rt.zero) || (inR r.th 1 8 && inR r.ve 0 5 && !(r.wk && r.wr))
theorem Nz {r : Rt} (h : decide (r.th = 0) = true) : decide (r = Rt.zero) = rightOk r := by
  have h' : r.th = 0 := of_decide_eq_true h
  unfold rightOk inR
  simp [h']
theorem Nd {r : Rt} (h : decide (r.th = 0) = false) : (inR r.th 1 8 && inR r.ve 0 5 && !(r.wk && r.wr)) = rightOk r := by
  have h' : ¬ r.th = 0 := of_decide_eq_false h
  have h2 : r ≠ Rt.zero := fun e => h' (by rw [e]; rfl)
  unfold rightOk
  simp [h2]
theorem We {α : Type} {p : α → Bool} {l : List α} {k : Nat} {x : α} (h : (l.take k).any p = false) (hx : l[k]? = some x) (hp : p x = false) : (l.take (k + 1)).any p = false := by
  rw [List.take_add_one, List.any_append, h, hx]
  simp [hp]
theorem Gu {α : Type} {p : α → Bool} {l : List α} {k : Nat} {x : α} (hx : l[k]? = some x) (hp : p x = true) : l.any p = true :=
  List.any_eq_true.2 ⟨x, List.mem_of_getElem? hx, hp⟩
theorem G3 {α : Type} {p : α → Bool} {l : List α} {k : Nat} (h : (l.take k).any p = false) (hk : l.length ≤ k) : l.any p = false := by
  rwa [List.take_of_length_le hk] at h
theorem Kp {α : Type} {l m : List α} {k : Nat} {x y : α} (h : l.take k = m.take k) (hx : l[k]? = some x) (hy : m[k]? = some y) (e : x = y) : l.take (k + 1) = m.take (k + 1) := by
  rw [List.take_add_one, List.take_add_one, h, hx, hy, e]
theorem Vd {α : Type} {l m : List α} {k : Nat} (h : l.take k = m.take k) (hl : l.length ≤ k) (hm : m.length ≤ k) : l = m := by
  rwa [List.take_of_length_le hl, List.take_of_length_le hm] at h
theorem Ul {α : Type} {l m : List α} {k : Nat} {x y : α} (hx : l[k]? = some x) (hy : m[k]? = some y) (e : ¬ x = y) : ¬ l = m := fun h => e (by
  rw [h, hy] at hx
  exact (Option.some.inj hx).symm)
structure Th where
  kind : Int
  lab : Lab
  ve : Int
  num : Int
  slots : List Rt
  queue : List Int
  to : Int
  deriving DecidableEq
structure MTh where
  t : Th
  sa : Option Addr
  sc : Nat
  qa : Option Addr
  qc : Nat
structure Cl where
  kind : Int
  run : Int
  a : Int
  b : Int
  n : Int
  deriving DecidableEq
def Cl.cells (c : Cl) : List Value := [.int .i64 c.kind, .int .i64 c.run, .int .i64 c.a, .int .i64 c.b, .int .i64 c.n]
def icell (n : Int) : List Value := [.int .i64 n]
def MTh.cells (m : MTh) : List Value :=
  [.int .i64 m.t.kind, .int .i64 m.t.lab.s, .int .i64 m.t.lab.v, .int .i64 m.t.ve, .int .i64 m.t.num, .slice m.sa m.t.slots.length m.sc, .slice m.qa m.t.queue.length m.qc, .int .i64 m.t.to]
def versOk (t : Th) : Bool := if t.kind = 1 ∨ t.kind = 2 ∨ t.kind = 4 then inR t.ve 0 5 else decide (t.ve = 0)
def numOk (t : Th) : Bool := if t.kind = 1 ∨ t.kind = 5 then inR t.num 0 99 else if t.kind = 3 then inR t.num (-4) 99 else decide (t.num = 0)
def slotsOk (t : Th) : Bool := if t.kind = 2 ∨ t.kind = 3 then decide (t.slots.length = 4) && t.slots.all rightOk else decide (t.slots.length = 0)
def numQ (n : Int) : Bool := inR n 0 99
def queueOk (t : Th) : Bool := if t.kind = 4 then decide (t.queue.length ≤ 3) && t.queue.all numQ else decide (t.queue.length = 0)
def targetOk (t : Th) : Bool := if t.kind = 5 then inR t.to 1 8 else decide (t.to = 0)
def thingOk (t : Th) : Bool := inR t.kind 1 5 && labelOk t.lab && versOk t && numOk t && slotsOk t && queueOk t && targetOk t
theorem Qj {α : Type} {p : α → Bool} {l : List α} {k : Nat} {x : α} (h : (l.take k).all p = true) (hx : l[k]? = some x) (hp : p x = true) : (l.take (k + 1)).all p = true := by
  rw [List.take_add_one, List.all_append, h, hx]
  simp [hp]
theorem Qo {α : Type} {p : α → Bool} {l : List α} {k : Nat} {x : α} (hx : l[k]? = some x) (hp : p x = false) : l.all p = false := by
  cases h : l.all p with
  | false => rfl
  | true => rw [List.all_eq_true.1 h x (List.mem_of_getElem? hx)] at hp; cases hp
theorem Qz {α : Type} {p : α → Bool} {l : List α} {k : Nat} (h : (l.take k).all p = true) (hk : l.length ≤ k) : l.all p = true := by
  rwa [List.take_of_length_le hk] at h
theorem Nm {t : Th} (h : (!decide (t.kind = 2) && !decide (t.kind = 3)) = true) : slotsOk t = decide ((t.slots.length : Int) = 0) := by
  have h' : ¬ (t.kind = 2 ∨ t.kind = 3) := by simp at h; omega
  unfold slotsOk
  rw [if_neg h', decide_eq_decide]
  omega
theorem Vv {t : Th} (h : (!decide (t.kind = 2) && !decide (t.kind = 3)) = false) : slotsOk t = (decide ((t.slots.length : Int) = 4) && t.slots.all rightOk) := by
  have h' : t.kind = 2 ∨ t.kind = 3 := by simp at h; omega
  unfold slotsOk
  rw [if_pos h']
  congr 1
  rw [decide_eq_decide]
  omega
end Go.Dw
end
section
namespace Go.Dw
open Go.RowKit
abbrev Fr := Nat → Value
def up (f : Fr) (d : Nat) (v : Value) : Fr := fun i => bif Nat.beq i d then v else f i
theorem Lo (f : Fr) (d : Nat) (v : Value) (i : Nat) : up f d v i = if i = d then v else f i := by
  unfold up
  by_cases h : i = d
  · subst h; simp
  · have : Nat.beq i d = false := by
      cases hb : Nat.beq i d with
      | false => rfl
      | true => exact absurd (Nat.eq_of_beq_eq_true hb) h
    simp [this, h]
def ev (f : Fr) : Operand → Value
  | .tmp t => f t
  | .const v => v
  | .global g => .pointer (some ⟨g, 0, none⟩)
  | .func k => .func (.func k) #[] #[]
structure FEq (n : Nat) (a : Act) (f : Fr) : Prop where
  defers : a.defers = []
  size : a.tmps.size = n
  at_ : ∀ i, a.tmps.getD i undef = f i
theorem FEq.eval {n : Nat} {a : Act} {f : Fr} (h : FEq n a f) : a.eval = ev f := by
  funext x
  cases x with
  | tmp t => exact h.at_ t
  | const v => rfl
  | global g => rfl
  | func k => rfl
theorem FEq.put {n : Nat} {a : Act} {f : Fr} (h : FEq n a f) {d : Nat} (hd : Nat.blt d n = true) (v : Value) : FEq n (a.put (some d) v) (up f d v) := by
  have hd' : d < n := by simpa [Nat.blt_eq] using hd
  refine ⟨h.defers, by simp [Act.put, h.size], fun i => ?_⟩
  rw [Lo, ← h.at_ i]
  by_cases hi : i = d
  · subst hi
    simp [Act.put, Array.getD, h.size, hd']
  · have hne : d ≠ i := fun e => hi e.symm
    simp [Act.put, hi, Array.getElem?_setIfInBounds_ne hne]
def upo (f : Fr) : Option Nat → Value → Fr
  | some d, v => up f d v
  | none, _ => f
def okd (n : Nat) : Option Nat → Bool
  | some d => Nat.blt d n
  | none => true
theorem FEq.puto {n : Nat} {a : Act} {f : Fr} (h : FEq n a f) {d : Option Nat} (hd : okd n d = true) (v : Value) : FEq n (a.put d v) (upo f d v) := by
  cases d with
  | none => exact h
  | some d => exact h.put hd v
def Wpf (P : Program) (n : Nat) (Q : Exit → Fr → World → Prop) (c : Code) (f : Fr) (w : World) : Prop :=
  ∀ a, FEq n a f → c.wp P (fun e a' w' => ∃ f', FEq n a' f' ∧ Q e f' w') a w
def thn (K : Fr → World → Prop) (Q : Exit → Fr → World → Prop) : Exit → Fr → World → Prop
  | .normal, f, w => K f w
  | e, f, w => Q e f w
def blk (id : Nat) (Q : Exit → Fr → World → Prop) : Exit → Fr → World → Prop
  | .exit i, f, w => if i = id then Q .normal f w else Q (.exit i) f w
  | e, f, w => Q e f w
section
variable {P : Program} {n : Nat} {Q : Exit → Fr → World → Prop} {f : Fr} {w : World}
theorem Wpf.mono {Q' : Exit → Fr → World → Prop} {c : Code} (h : Wpf P n Q c f w) (hq : ∀ e f w, Q e f w → Q' e f w) : Wpf P n Q' c f w :=
  fun a ha => wp_mono (h a ha) fun _ _ _ ⟨f', hf, hQ⟩ => ⟨f', hf, hq _ _ _ hQ⟩
theorem Xy (h : Q .normal f w) : Wpf P n Q .skip f w := fun _ ha => wp_skip ⟨f, ha, h⟩
theorem Xs (h : Q .ret f w) : Wpf P n Q .ret f w := fun _ ha => wp_ret ⟨f, ha, h⟩
theorem Y5 {id : Nat} (h : Q (.exit id) f w) : Wpf P n Q (.exit id) f w := fun _ ha => wp_exit ⟨f, ha, h⟩
theorem Xt {x y : Code} (h : Wpf P n (thn (Wpf P n Q y) Q) x f w) : Wpf P n Q (.seq x y) f w := fun a ha =>
  wp_seq (wp_mono (h a ha) fun e a' w' ⟨f', hf, hQ⟩ => by
    cases e with
    | normal => exact hQ a' hf
    | exit i => exact ⟨f', hf, hQ⟩
    | goto l => exact ⟨f', hf, hQ⟩
    | ret => exact ⟨f', hf, hQ⟩
    | panic c => exact ⟨f', hf, hQ⟩
    | outgrown => exact ⟨f', hf, hQ⟩)
theorem Q0 {x y : Code} (M : Fr → World → Prop) (h : Wpf P n (thn M Q) x f w) (hM : ∀ f w, M f w → Wpf P n Q y f w) : Wpf P n Q (.seq x y) f w :=
  Xt (h.mono fun e f w hq => by cases e <;> first | exact hM _ _ hq | exact hq)
theorem Ye {id : Nat} {c : Code} (h : Wpf P n (blk id Q) c f w) : Wpf P n Q (.block id c) f w := fun a ha =>
  wp_block (wp_mono (h a ha) fun e a' w' ⟨f', hf, hQ⟩ => by
    cases e with
    | exit i =>
      simp only [blk] at hQ
      simp only [Exit.inBlock]
      by_cases hi : i = id
      · rw [if_pos hi] at hQ ⊢; exact ⟨f', hf, hQ⟩
      · rw [if_neg hi] at hQ ⊢; exact ⟨f', hf, hQ⟩
    | normal => exact ⟨f', hf, hQ⟩
    | goto l => exact ⟨f', hf, hQ⟩
    | ret => exact ⟨f', hf, hQ⟩
    | panic c => exact ⟨f', hf, hQ⟩
    | outgrown => exact ⟨f', hf, hQ⟩)
theorem Xw {c : Operand} {x y : Code} {b : Bool} (hc : ev f c = .bool b) (ht : b = true → Wpf P n Q x f w) (hf : b = false → Wpf P n Q y f w) :
    Wpf P n Q (.cond c x y) f w := fun a ha =>
  wp_cond_split (t := b) (by rw [ha.eval]; exact hc) (fun h => ht h a ha) (fun h => hf h a ha)
theorem Zc {c : Operand} {x y : Code} {b : Bool} (hc : ev f c = .bool b) (hb : b = true) (h : Wpf P n Q x f w) : Wpf P n Q (.cond c x y) f w :=
  Xw hc (fun _ => h) (fun e => by rw [hb] at e; cases e)
theorem Zr {c : Operand} {x y : Code} {b : Bool} (hc : ev f c = .bool b) (hb : b = false) (h : Wpf P n Q y f w) : Wpf P n Q (.cond c x y) f w :=
  Xw hc (fun e => by rw [hb] at e; cases e) (fun _ => h)
theorem Xv {K : Fr → World → Prop} (h : K f w) : thn K Q .normal f w := h
theorem Yi {K : Fr → World → Prop} (h : Q .ret f w) : thn K Q .ret f w := h
theorem Y2 {K : Fr → World → Prop} {i : Nat} (h : Q (.exit i) f w) : thn K Q (.exit i) f w := h
theorem Yy {id : Nat} (h : Q .normal f w) : blk id Q .normal f w := h
theorem Y6 {id : Nat} (h : Q .ret f w) : blk id Q .ret f w := h
theorem Z1 {id : Nat} (h : Q .normal f w) : blk id Q (.exit id) f w := by simpa [blk] using h
theorem Mp {id i : Nat} (hi : i ≠ id) (h : Q (.exit i) f w) : blk id Q (.exit i) f w := by simpa [blk, hi] using h
theorem Zd {c : Code} (I : Nat → Fr → World → Prop) (m₀ : Nat) (h₀ : I m₀ f w)
    (round : ∀ m f w, I m f w → Wpf P n (thn (fun f' w' => ∃ m', m' < m ∧ I m' f' w') Q) c f w) : Wpf P n Q (.loop c) f w := by
  intro a ha b k cs
  have key : ∀ m f a w, I m f w → FEq n a f →
      ∃ e a' w', (∃ f', FEq n a' f' ∧ Q e f' w') ∧ Arrives P (lone (b.at a (.code c :: .inLoop c :: k)) cs w) b k cs e a' w' := by
    intro m
    induction m using Nat.strongRecOn with
    | _ m ih =>
      intro f a w hI ha
      obtain ⟨e, a₁, w₁, ⟨f₁, hf₁, hq⟩, harr⟩ := round m f w hI a ha b (.inLoop c :: k) cs
      cases e with
      | normal =>
        obtain ⟨m', hlt, hI₁⟩ := hq
        obtain ⟨e₂, a₂, w₂, hq₂, harr₂⟩ := ih m' hlt f₁ a₁ w₁ hI₁ hf₁
        exact ⟨e₂, a₂, w₂, hq₂, .of_steps (Steps.trans harr (.one step_inLoop)) harr₂⟩
      | exit id => exact ⟨_, a₁, w₁, ⟨f₁, hf₁, hq⟩, .pass (x := .inLoop c) rfl (fun _ _ => .inl (by simp)) harr⟩
      | goto l => exact ⟨_, a₁, w₁, ⟨f₁, hf₁, hq⟩, .pass (x := .inLoop c) rfl (fun _ _ => .inl (by simp)) harr⟩
      | ret => exact ⟨_, a₁, w₁, ⟨f₁, hf₁, hq⟩, .pass (x := .inLoop c) rfl (fun _ _ => .inl (by simp)) harr⟩
      | panic ch => exact ⟨_, a₁, w₁, ⟨f₁, hf₁, hq⟩, .pass (x := .inLoop c) rfl (fun _ _ => .inl (by simp)) harr⟩
      | outgrown => exact ⟨_, a₁, w₁, ⟨f₁, hf₁, hq⟩, .pass (x := .inLoop c) rfl (fun _ _ => .inl (by simp)) harr⟩
  obtain ⟨e, a', w', hq, harr⟩ := key m₀ f a w h₀ ha
  exact ⟨e, a', w', hq, .of_steps (.one step_loop) harr⟩
end
def lget : List Value → Nat → Value
  | [], _ => undef
  | v :: _, 0 => v
  | _ :: l, i + 1 => lget l i
theorem Ua : ∀ (l : List Value) (i : Nat), lget l i = l[i]?.getD undef
  | [], _ => by simp [lget]
  | v :: l, 0 => by simp [lget]
  | v :: l, i + 1 => by simp [lget, Ua l i]
def f0 (args : Array Value) : Fr := fun i => lget args.toList i
def resV (P : Program) (fn : Func) (f : Fr) (w : World) (v : Value) : Prop := ∀ tmps : Array Value, (∀ i, tmps.getD i undef = f i) → (results fn tmps).run P w = .ok v w
def endQ (P : Program) (fn : Func) (R : Value → World → Prop) : Exit → Fr → World → Prop
  | .normal, f, w | .ret, f, w => ∃ v, resV P fn f w v ∧ R v w
  | _, _, _ => False
theorem X0 {P : Program} {k : FuncId} {fn : Func} {c : Code} {args : Array Value} {w : World} {R : Value → World → Prop} {n : Nat}
    (hf : P.funcs[k]? = some fn) (hb : fn.body = some c) (hn : fn.ntmps = n) (hs : Nat.ble args.size n = true)
    (h : Wpf P n (endQ P fn R) c (f0 args) w) : Calls P k args w fun e w' => ∃ v, e = .returned v ∧ R v w' := by
  have hs' : args.size ≤ n := by simpa [Nat.ble_eq] using hs
  refine calls_of_wp hf hb ?_
  refine wp_mono (h _ ⟨rfl, by simp [hn]; omega, fun i => ?_⟩) fun e a w ⟨f', hf', hQ⟩ => ?_
  · simp only [f0, Ua, Array.getD_eq_getD_getElem?, Array.getElem?_toList]
    by_cases hi : i < args.size
    · rw [Array.getElem?_append_left hi]
    · rw [Array.getElem?_append_right (by omega), Array.getElem?_eq_none (by omega : args.size ≤ i)]
      by_cases h2 : i - args.size < fn.ntmps - args.size
      · simp [h2]
      · rw [Array.getElem?_eq_none (by simp; omega)]
  · cases e with
    | normal => obtain ⟨v, hv, hR⟩ := hQ; exact ⟨hf'.defers, v, hv _ hf'.at_, v, rfl, hR⟩
    | ret => obtain ⟨v, hv, hR⟩ := hQ; exact ⟨hf'.defers, v, hv _ hf'.at_, v, rfl, hR⟩
    | exit i => exact hQ.elim
    | goto l => exact hQ.elim
    | panic c => exact hQ.elim
    | outgrown => exact hQ.elim
theorem Tz {P : Program} {fn : Func} {f : Fr} {w : World} (h : fn.results = #[]) : resV P fn f w (.tuple #[]) := fun _ _ => results_none h _ _ _
theorem Yq {P : Program} {fn : Func} {f : Fr} {w : World} {t : Nat} {v : Value} (h : fn.results = #[.tmp t]) (hv : f t = v) : resV P fn f w v := fun tm ht => by
  rw [results_tmp h, ht, hv]
theorem Bj {P : Program} {fn : Func} {f : Fr} {w : World} {t u : Nat} {v x : Value} (h : fn.results = #[.tmp t, .tmp u]) (hv : f t = v) (hx : f u = x) : resV P fn f w (.tuple #[v, x]) := fun tm ht => by
  rw [results_tmp2 h, ht, ht, hv, hx]
def WpO (P : Program) (n : Nat) (ops : Array Oper) (K : Fr → World → Prop) (l : List Oper) (f : Fr) (w : World) : Prop :=
  ∀ a, FEq n a f → ∀ Q : Exit → Act → World → Prop, (∀ a' w' f', FEq n a' f' → K f' w' → Q .normal a' w') → wpList P ops Q l a w
section
variable {P : Program} {n : Nat} {ops : Array Oper} {K : Fr → World → Prop} {l : List Oper} {f : Fr} {w w' : World} {o : Oper} {v : Value}
theorem WpO.mono {K' : Fr → World → Prop} (h : WpO P n ops K l f w) (hk : ∀ f w, K f w → K' f w) : WpO P n ops K' l f w :=
  fun a ha Q hQ => h a ha Q fun a' w' f' hf hK => hQ a' w' f' hf (hk _ _ hK)
theorem X1 {id : Nat} {Q : Exit → Fr → World → Prop} (h : WpO P n l.toArray (Q .normal) l f w) : Wpf P n Q (.region id l.toArray false) f w := fun a ha =>
  wp_region_lit (h a ha _ fun _ _ f' hf hK => ⟨f', hf, hK⟩)
theorem Xb {id : Nat} {Q : Exit → Fr → World → Prop} {y : Code} (h : WpO P n l.toArray (Wpf P n Q y) l f w) : Wpf P n Q (.seq (.region id l.toArray false) y) f w :=
  Xt (X1 h)
theorem X2 {id : Nat} {Q : Exit → Fr → World → Prop} {y : Code} (M : Fr → World → Prop) (h : WpO P n l.toArray M l f w) (hM : ∀ f w, M f w → Wpf P n Q y f w) : Wpf P n Q (.seq (.region id l.toArray false) y) f w :=
  Xb (h.mono hM)
theorem Xa (h : K f w) : WpO P n ops K [] f w := fun a ha _ hQ => hQ a w f ha h
theorem Zp (hg : o.guard = none) (hd : okd n o.dst = true) (hr : (execOp (ev f) o).run P w = .ok (.value v) w') (h : WpO P n ops K l (upo f o.dst v) w') : WpO P n ops K (o :: l) f w :=
  fun a ha Q hQ => wpList_plain hg fun K' hK' => by
    unfold Oper.wp
    rw [ha.eval, hr]
    exact hK' _ _ (h _ (ha.puto hd v) Q hQ)
theorem Vi (hg : o.guard = none) (hd : o.dst = none) (hr : (execOp (ev f) o).run P w = .ok .skip w') (h : WpO P n ops K l f w') : WpO P n ops K (o :: l) f w :=
  fun a ha Q hQ => wpList_plain hg fun K' hK' => by
    unfold Oper.wp
    rw [ha.eval, hr]
    refine hK' _ _ (h _ ?_ Q hQ)
    rw [hd]
    exact ha
theorem N3 {k : FuncId} {args : Array Value} {R : Value → World → Prop} (hg : o.guard = none) (hd : okd n o.dst = true) (hr : (execOp (ev f) o).run P w = .ok (.enter k args) w')
    (hc : Calls P k args w' fun e w'' => ∃ v, e = .returned v ∧ R v w'') (h : ∀ v w'', R v w'' → WpO P n ops K l (upo f o.dst v) w'') : WpO P n ops K (o :: l) f w :=
  fun a ha Q hQ => wpList_plain hg fun K' hK' => by
    unfold Oper.wp
    rw [ha.eval, hr]
    show Calls P k args w' _
    refine hc.mono fun e w'' ⟨v, he, hR⟩ => ?_
    subst he
    exact hK' _ _ (h v w'' hR _ (ha.puto hd v) Q hQ)
theorem Uu {a : Act} (ha : FEq n a f) {j d : Nat} {oj : Oper} (hj : ops[j]? = some oj) (hdj : oj.dst = some d) {b : Bool} (hb : f d = .bool b) : yielded ops a.tmps j = some b := by
  have h1 := ha.at_ d
  rw [hb] at h1
  have h2 : a.tmps[d]? = some (.bool b) := by
    cases h3 : a.tmps[d]? with
    | none => rw [Array.getD_eq_getD_getElem?, h3] at h1; cases h1
    | some v => rw [Array.getD_eq_getD_getElem?, h3] at h1; simpa using h1
  simp [yielded, hj, hdj, h2]
theorem Wc {a : Act} (ha : FEq n a f) {j d : Nat} {oj : Oper} (hj : ops[j]? = some oj) (hdj : oj.dst = some d) (hb : f d = undef) : yielded ops a.tmps j = none := by
  have h1 := ha.at_ d
  rw [hb, Array.getD_eq_getD_getElem?] at h1
  simp only [yielded, hj, hdj, Option.bind_some]
  cases h3 : a.tmps[d]? with
  | none => rfl
  | some v =>
    rw [h3] at h1
    have : v = undef := h1
    subst this
    rfl
theorem Xe {d : Option Nat} {op : Op} {ty : TypeId} {pos : String} {aft : Array Edge} {j dj : Nat} {b b' : Bool} {oj : Oper} (hj : ops[j]? = some oj) (hdj : oj.dst = some dj) (hb : f dj = .bool b') (hbb : b' = b)
    (h : WpO P n ops K (⟨d, op, ty, pos, aft, none⟩ :: l) f w) : WpO P n ops K (⟨d, op, ty, pos, aft, some (j, b)⟩ :: l) f w := fun a ha Q hQ => by
  have h1 := h a ha Q hQ
  unfold wpList at h1 ⊢
  rw [if_pos (by simp [Region.wanted])] at h1
  rw [if_pos (by simp [Region.wanted, Uu ha hj hdj hb, hbb])]
  exact h1
theorem Xk {d : Nat} {op : Op} {ty : TypeId} {pos : String} {aft : Array Edge} {j dj : Nat} {b b' : Bool} {oj : Oper} (hj : ops[j]? = some oj) (hdj : oj.dst = some dj) (hb : f dj = .bool b') (hbb : b' = !b)
    (hd : Nat.blt d n = true) (h : WpO P n ops K l (up f d undef) w) : WpO P n ops K (⟨some d, op, ty, pos, aft, some (j, b)⟩ :: l) f w := fun a ha Q hQ => by
  have h1 := h _ (ha.put hd undef) Q hQ
  unfold wpList
  rw [if_neg (by simp [Region.wanted, Uu ha hj hdj hb, hbb])]
  exact h1
theorem Yg {d : Nat} {op : Op} {ty : TypeId} {pos : String} {aft : Array Edge} {j dj : Nat} {b : Bool} {oj : Oper} (hj : ops[j]? = some oj) (hdj : oj.dst = some dj) (hb : f dj = undef)
    (hd : Nat.blt d n = true) (h : WpO P n ops K l (up f d undef) w) : WpO P n ops K (⟨some d, op, ty, pos, aft, some (j, b)⟩ :: l) f w := fun a ha Q hQ => by
  have h1 := h _ (ha.put hd undef) Q hQ
  unfold wpList
  rw [if_neg (by simp [Region.wanted, Wc ha hj hdj hb])]
  exact h1
end
theorem b0 (x : Bool) : (x && true) = x := Bool.and_true x
theorem b1 (x : Bool) : (true && x) = x := Bool.true_and x
theorem b2 (x : Bool) : (x && false) = false := Bool.and_false x
theorem b3 (x : Bool) : (false && x) = false := Bool.false_and x
theorem b4 (x : Bool) : (x || true) = true := Bool.or_true x
theorem b5 (x : Bool) : (true || x) = true := Bool.true_or x
theorem b6 (x : Bool) : (x || false) = x := Bool.or_false x
theorem b7 (x : Bool) : (false || x) = x := Bool.false_or x
theorem b8 : (!true) = false := rfl
theorem b9 : (!false) = true := rfl
end Go.Dw
end
section
namespace Go.Dw
open Go.RowKit
def Blk (w : World) (b : Nat) (T : TypeId) (cs : Array Value) : Prop := w.heap[b]? = some (.cells cs T (0, 0))
section
variable {w w' : World} {b : Nat} {T : TypeId} {cs : Array Value}
theorem Blk.lt (h : Blk w b T cs) : b < w.heap.size := (Array.getElem?_eq_some_iff.1 h).1
theorem Blk.cell (h : Blk w b T cs) {i : Nat} {v : Value} (hv : cs[i]? = some v) : w.cell? ⟨b, i, none⟩ = some v := by
  unfold Blk at h
  simp [World.cell?, h, hv]
theorem Blk.froz (h : Blk w b T cs) (i : Nat) : w.frozen? ⟨b, i, none⟩ = false := by
  unfold Blk at h
  simp [World.frozen?, h]
theorem Blk.range (h : Blk w b T cs) {o : Nat} {vs : List Value} (hv : ∀ j v, vs[j]? = some v → cs[o + j]? = some v) : w.rangeAt b o vs := fun j v hj => h.cell (hv j v hj)
theorem Blk.all (h : Blk w b T cs) : w.rangeAt b 0 cs.toList := h.range fun j v hj => by simpa using hj
theorem Blk.grown (h : Blk w b T cs) {r : Option Nat} (hg : w.grownBy w' r) (hne : some b ≠ r) : Blk w' b T cs := (hg.block b h.lt hne).trans h
theorem Blk.grown0 (h : Blk w b T cs) (hg : w.grownBy w' none) : Blk w' b T cs := h.grown hg (by simp)
theorem Z7 {o : Nat} {vs : List Value} (h : w.rangeAt b o vs) {r : Option Nat} (hg : w.grownBy w' r) (hne : some b ≠ r) : w'.rangeAt b o vs := fun j v hj =>
  hg.cell (h j v hj) hne
end
structure NewB (w w' : World) (B : Nat) (T : TypeId) (cs : Array Value) : Prop where
  eq : B = w.heap.size
  blk : Blk w' B T cs
  grw : w.grownBy w' none
  sz : w'.heap.size = w.heap.size + 1
structure SetB (w w' : World) (b : Nat) (T : TypeId) (cs : Array Value) : Prop where
  blk : Blk w' b T cs
  grw : w.grownBy w' (some b)
  sz : w'.heap.size = w.heap.size
theorem Ko (w : World) (T : TypeId) (cs : Array Value) : NewB w (w.alloc (.cells cs T)) w.heap.size T cs :=
  ⟨rfl, by show (w.heap.push _)[w.heap.size]? = _; simp, World.grownBy_alloc _ _ _, by simp⟩
theorem setB_setRow {w : World} {b : Nat} {T : TypeId} {cs : Array Value} (h : Blk w b T cs) (cs' : Array Value) : SetB w (w.setRow b cs') b T cs' :=
  ⟨setRow_heap w b cs cs' T _ h, ⟨rfl, rfl, rfl, by simp [World.setRow], fun i _ hne => by
    have : b ≠ i := fun e => hne (by rw [e])
    simp [World.setRow, Array.getElem?_modify, this]⟩, by simp [World.setRow]⟩
theorem grown_trans {a b c : World} {r : Option Nat} (h : a.grownBy b r) (k : b.grownBy c r) : a.grownBy c r :=
  ⟨k.os.trans h.os, k.tape.trans h.tape, k.output.trans h.output, Nat.le_trans h.size k.size, fun i hi hne => (k.block i (Nat.lt_of_lt_of_le hi h.size) hne).trans (h.block i hi hne)⟩
theorem Uz {w w' : World} {r : Option Nat} {B : Nat} (hg : w.grownBy w' r) (hB : B ≤ w.heap.size) (hr : ∀ k, r = some k → B ≤ k) : Below B w w' :=
  (Below.refl B w).grown hg hB hr
theorem Jb {w w' : World} {B : Nat} (hg : w.grownBy w' none) (hB : B ≤ w.heap.size) : Below B w w' := Uz hg hB (by simp)
theorem low0 {w a b : World} {r : Option Nat} (h : w.grownBy a r) (hg : a.grownBy b none) : w.grownBy b r :=
  ⟨hg.os.trans h.os, hg.tape.trans h.tape, hg.output.trans h.output, Nat.le_trans h.size hg.size, fun i hi hne => (hg.block i (Nat.lt_of_lt_of_le hi h.size) (by simp)).trans (h.block i hi hne)⟩
theorem low1 {w a b : World} {r : Option Nat} {c : Nat} (h : w.grownBy a r) (hg : a.grownBy b (some c)) (hc : w.heap.size ≤ c) : w.grownBy b r :=
  ⟨hg.os.trans h.os, hg.tape.trans h.tape, hg.output.trans h.output, Nat.le_trans h.size hg.size, fun i hi hne => (hg.block i (Nat.lt_of_lt_of_le hi h.size) (by simp; omega)).trans (h.block i hi hne)⟩
theorem Yf {w a b : World} {r : Option Nat} {B : Nat} {T : TypeId} {cs : Array Value} (h : NewB a b B T cs) (hl : w.grownBy a r) : w.heap.size ≤ B := by rw [h.eq]; exact hl.size
theorem Xf {a b : Nat} (h : a ≠ b) : some a ≠ some b := fun e => h (by injection e)
theorem Blk.rangeL {w : World} {b : Nat} {T : TypeId} {cs : Array Value} (h : Blk w b T cs) (o k : Nat) {vs : List Value} (e : (cs.toList.drop o).take k = vs) : w.rangeAt b o vs :=
  h.range fun j v hj => by
    rw [← e, List.getElem?_take] at hj
    split at hj
    · rw [List.getElem?_drop] at hj; simpa using hj
    · cases hj
theorem Za {w : World} {b o : Nat} {us : List Value} (h : w.rangeAt b o us) (j k : Nat) {vs : List Value} (e : (us.drop j).take k = vs) : w.rangeAt b (o + j) vs := fun i v hi => by
  rw [← e, List.getElem?_take] at hi
  split at hi
  · rw [List.getElem?_drop] at hi
    rw [Nat.add_assoc]
    exact h _ _ hi
  · cases hi
theorem Yo {w w' : World} {b o : Nat} {vs : List Value} (h : w.rangeAt b o vs) (hb : w.grownBy w' none) : w'.rangeAt b o vs := Z7 h hb (by simp)
theorem Yb (b : Bool) : b = true ∨ b = false := by cases b <;> simp
theorem Zn {b : Bool} (h : (!b) = true) : b = false := by simpa using h
theorem Zh {b : Bool} (h : (!b) = false) : b = true := by simpa using h
theorem Jp {b : Bool} (h : b = true) : (!b) = false := by simp [h]
theorem Qc {b : Bool} (h : b = false) : (!b) = true := by simp [h]
theorem Lk {a b : Bool} (h : (a && b) = true) : a = true := by simp at h; exact h.1
theorem Li {a b : Bool} (h : (a && b) = true) : b = true := by simp at h; exact h.2
theorem Qx {a b : Bool} (h : (a || b) = false) : a = false := by simp at h; exact h.1
theorem Qy {a b : Bool} (h : (a || b) = false) : b = false := by simp at h; exact h.2
theorem Tn {α : Type} [DecidableEq α] (a b : α) : (a == b) = decide (a = b) := by
  by_cases h : a = b <;> simp [h]
theorem Xm {f : Fr} : ([] : List Operand).map (ev f) = [] := rfl
theorem Xg {f : Fr} {x : Operand} {xs : List Operand} {v : Value} {vs : List Value} (h : ev f x = v) (t : xs.map (ev f) = vs) : (x :: xs).map (ev f) = v :: vs := by simp [h, t]
theorem X9 {f : Fr} : ([] : List (Nat × Operand)).map (fun p => (p.1, ev f p.2)) = [] := rfl
theorem Xp {f : Fr} {i : Nat} {x : Operand} {xs : List (Nat × Operand)} {v : Value} {vs : List (Nat × Value)} (h : ev f x = v) (t : xs.map (fun p => (p.1, ev f p.2)) = vs) :
    ((i, x) :: xs).map (fun p => (p.1, ev f p.2)) = (i, v) :: vs := by simp [h, t]
def SlAt (w : World) (a : Option Addr) (sz : Nat) (xs : List (List Value)) : Prop := ∀ k x, xs[k]? = some x → ∃ b o, a = some ⟨b, o, none⟩ ∧ w.rangeAt b (o + k * sz) x
theorem SlAt.low {w w' : World} {a : Option Addr} {sz : Nat} {xs : List (List Value)} (h : SlAt w a sz xs) (hb : w.grownBy w' none) : SlAt w' a sz xs := fun k x hk => by
  obtain ⟨b, o, ha, hr⟩ := h k x hk
  exact ⟨b, o, ha, Yo hr hb⟩
theorem SlAt.at {w : World} {a : Option Addr} {sz k : Nat} {xs : List (List Value)} {x : List Value} (h : SlAt w a sz xs) (hk : xs[k]? = some x) : ∃ b q o, a = some ⟨b, q, none⟩ ∧ q + k * sz = o ∧ w.rangeAt b o x := by
  obtain ⟨b, o, ha, hr⟩ := h k x hk
  exact ⟨b, o, _, ha, rfl, hr⟩
theorem Zf {α : Type} {l : List α} {i : Nat} (h : i < l.length) : ∃ x, l[i]? = some x := ⟨_, List.getElem?_eq_getElem h⟩
theorem Yn {α β : Type} {g : α → β} {l : List α} {i : Nat} {x : α} (h : l[i]? = some x) : (l.map g)[i]? = some (g x) := by simp [h]
def fieldOff (P : Program) (s : TypeId) (k : Nat) : Option Nat :=
  match P.underlying s with
  | some (.struct fs) => match fs[k]? with
    | some fl => match P.info? fl.type with
      | some i => if i.size = 0 then none else some fl.offset
      | none => none
    | none => none
  | _ => none
def oneTy (P : Program) (t : TypeId) : Bool :=
  match P.underlying t with
  | some (.struct _) | some (.array _ _) | none => false
  | _ => match P.info? t with | some i => i.size == 1 | none => false
def rowTy (P : Program) (t : TypeId) : Option Nat :=
  match P.underlying t with
  | some (.struct _) | some (.array _ _) => (P.info? t).map (·.size)
  | _ => none
def zeroTy (P : Program) (t : TypeId) : Option Value := (P.info? t).bind (·.zero)
def goFn (P : Program) (k : FuncId) : Bool :=
  match P.funcs[k]? with
  | some fn => fn.body.isSome && !(fn.name == "runtime.NumGoroutine")
  | none => false
def elemSz (P : Program) (t : TypeId) : Option Nat :=
  match P.underlying t with
  | some (.slice e) => (P.info? e).map (·.size)
  | _ => none
section
variable {P : Program} {w : World}
theorem Gp {s k j b o o' : Nat} (h : fieldOff P s k = some j) (e : o + j = o') : (Instr.fieldAt s (.pointer (some ⟨b, o, none⟩)) k).run P w = .ok (.pointer (some ⟨b, o', none⟩)) w := by
  unfold fieldOff at h
  split at h
  · rename_i fs hu
    split at h
    · rename_i fl hfl
      split at h
      · rename_i i hi
        split at h
        · cases h
        · rename_i hz
          obtain rfl := Option.some.inj h
          simp [Instr.fieldAt, run_underlying hu, hfl, Instr.sureAddr, fieldPlace, sizeOf, typeInfo, hi, hz, Addr.add_mid, e]
      · cases h
    · cases h
  · cases h
theorem Uk {t : TypeId} (h : oneTy P t = true) : (isAgg t).run P w = .ok false w := by
  unfold oneTy at h
  split at h
  · cases h
  · cases h
  · cases h
  · rename_i d h1 h2 h3
    cases hu : P.underlying t with
    | none => exact absurd hu h3
    | some d =>
      unfold isAgg
      rw [Sem.run_bind, run_underlying hu w]
      cases d <;> first | rfl | exact absurd hu (h1 _) | exact absurd hu (h2 _ _)
theorem La {t : TypeId} (h : oneTy P t = true) : (sizeOf t).run P w = .ok 1 w := by
  unfold oneTy at h
  split at h
  · cases h
  · cases h
  · cases h
  · split at h
    · rename_i i hi
      have : i.size = 1 := by simpa using h
      simp [sizeOf, typeInfo, hi, this]
    · cases h
theorem Nj {t : TypeId} (h : oneTy P t = true) {a : Addr} {v : Value} (hc : w.cell? a = some v) : (Instr.loadAt t (.pointer (some a))).run P w = .ok v w := by
  simp [Instr.loadAt, Instr.sureAddr, loadVar, Uk h, hc]
theorem Kk {t k : Nat} (h : rowTy P t = some k) : ∃ d, P.underlying t = some d ∧ d.isRow = true ∧ (P.info? t).map (·.size) = some k := by
  unfold rowTy at h
  split at h
  · rename_i fs hu; exact ⟨_, hu, rfl, h⟩
  · rename_i m e hu; exact ⟨_, hu, rfl, h⟩
  · cases h
theorem L1 {t k b o : Nat} {vs : List Value} (h : rowTy P t = some k) (hl : vs.length = k) (hr : w.rangeAt b o vs) :
    (Instr.loadAt t (.pointer (some ⟨b, o, none⟩))).run P w = .ok (.agg vs.toArray) w := by
  obtain ⟨d, hu, hd, hs⟩ := Kk h
  exact run_loadAt_mid w b o t vs d hr hu hd (by rw [hs, hl])
theorem Ve {t b o : Nat} {T : TypeId} {cs : Array Value} {v : Value} (h : oneTy P t = true) (h1 : v.oneCell' = true) (hb : Blk w b T cs) (ho : o < cs.size) :
    (Instr.storeAt t (.pointer (some ⟨b, o, none⟩)) v).run P w = .ok () (w.setRow b (cs.setIfInBounds o v)) := by
  have hc : v.cells = #[v] := by cases v <;> first | rfl | cases h1
  have hcell : w.cell? ⟨b, o, none⟩ = some cs[o] := hb.cell (by simp [ho])
  have hst : (store (⟨b, o, none⟩ : Addr) v).run P w = .ok () (w.setRow b (cs.setIfInBounds o v)) := by
    rw [run_store P w _ v _ h1, hcell]
    simp [hb.froz o, setCell_eq_setRow w b o cs T (0, 0) v hb]
  simp [Instr.storeAt, Instr.sureAddr, storeVar, La h, hc, storeCells, Addr.add_mid, hst]
theorem Un {t k b o : Nat} {T : TypeId} {cs : Array Value} {vs : List Value} (h : rowTy P t = some k) (hl : vs.length = k) (h1 : ∀ v ∈ vs, v.oneCell' = true) (hb : Blk w b T cs) (ho : o + k ≤ cs.size) :
    (Instr.storeAt t (.pointer (some ⟨b, o, none⟩)) (.agg vs.toArray)).run P w = .ok () (w.setRow b (cs.toList.take o ++ vs ++ cs.toList.drop (o + k)).toArray) := by
  obtain ⟨d, _, _, hs⟩ := Kk h
  cases hq : P.info? t with
  | none => simp [hq] at hs
  | some i =>
    have hi : i.size = k := by simpa [hq] using hs
    have := run_storeCells_at (P := P) b o T vs 0 cs w hb (by omega) h1
    simp only [Nat.add_zero, hl] at this
    simp [Instr.storeAt, Instr.sureAddr, storeVar, sizeOf, typeInfo, hq, hi, Value.cells, hl, this]
theorem P3 {t : TypeId} {z : Value} (h : zeroTy P t = some z) : (zeroValue t).run P w = .ok z w := by
  unfold zeroTy at h
  cases hq : P.info? t with
  | none => simp [hq] at h
  | some i =>
    have hz : i.zero = some z := by simpa [hq] using h
    simp [zeroValue, typeInfo, hq, hz]
theorem Ny {t sz b o : Nat} {len cap : Nat} {k : IntKind} {i : Int} (h : elemSz P t = some sz) (h0 : 0 ≤ i) (h1 : i < len) {o' : Nat} (e : o + i.toNat * sz = o') :
    (Instr.indexAt t (.slice (some ⟨b, o, none⟩) len cap) (.int k i)).run P w = .ok (.pointer (some ⟨b, o', none⟩)) w := by
  unfold elemSz at h
  split at h
  · rename_i el hu
    cases hq : P.info? el with
    | none => simp [hq] at h
    | some inf =>
      have hs : inf.size = sz := by simpa [hq] using h
      simp [Instr.indexAt, run_underlying hu, asIntOf, h0, h1, sizeOf, typeInfo, hq, hs, Addr.add_mid, e]
  · cases h
theorem H1 {k : FuncId} (h : goFn P k = true) (args : Array Value) : (callFunc k args).run P w = .ok (.enter k args) w := by
  unfold goFn at h
  split at h
  · rename_i fn hf
    simp only [Bool.and_eq_true, Bool.not_eq_true'] at h
    obtain ⟨hb, hn⟩ := h
    have hb' : fn.body.isNone = false := by cases hh : fn.body <;> simp_all
    have hn' : ¬ fn.name = "runtime.NumGoroutine" := by simpa using hn
    unfold callFunc
    rw [Sem.run_bind, run_program, Result.andThen_ok]
    simp [hf, hn', hb']
  · cases h
end
def resCell (P : Program) (f : Fr) (w : World) (t : Nat) (T : TypeId) (v : Value) : Prop := ∃ a, f t = .pointer (some a) ∧ (loadVar T a).run P w = .ok v w
section
variable {P : Program} {fn : Func} {f : Fr} {w : World}
theorem Yh {t T k b o : Nat} {vs : List Value} (ht : rowTy P T = some k) (hf : f t = .pointer (some ⟨b, o, none⟩)) (hl : vs.length = k) (hr : w.rangeAt b o vs) : resCell P f w t T (.agg vs.toArray) := by
  obtain ⟨d, hu, hd, hs⟩ := Kk ht
  exact ⟨_, hf, run_loadVar_mid w b o T vs d hr hu hd (by rw [hs, hl])⟩
theorem Zx {t T : Nat} {v : Value} (h : fn.results = #[.cell t T]) (hc : resCell P f w t T v) : resV P fn f w v := fun tm ht => by
  obtain ⟨a, hf, hl⟩ := hc
  simp [results, h, ht, hf, asAddr, hl]
theorem Ms {s t T : Nat} {u v : Value} (h : fn.results = #[.tmp s, .cell t T]) (hs : f s = u) (hc : resCell P f w t T v) : resV P fn f w (.tuple #[u, v]) := fun tm ht => by
  obtain ⟨a, hf, hl⟩ := hc
  simp [results, h, ht, hf, hs, asAddr, hl]
theorem Lf {s t T : Nat} {u v : Value} (h : fn.results = #[.cell t T, .tmp s]) (hc : resCell P f w t T v) (hs : f s = u) : resV P fn f w (.tuple #[v, u]) := fun tm ht => by
  obtain ⟨a, hf, hl⟩ := hc
  simp [results, h, ht, hf, hs, asAddr, hl]
end
def CallsR (P : Program) (k : FuncId) (args : Array Value) (w : World) (R : Value → World → Prop) : Prop := Calls P k args w fun e w' => ∃ v, e = .returned v ∧ R v w'
theorem CallsR.mono {P : Program} {k : FuncId} {args : Array Value} {w : World} {R R' : Value → World → Prop} (h : CallsR P k args w R) (hr : ∀ v w', R v w' → R' v w') : CallsR P k args w R' :=
  Calls.mono h fun _ _ ⟨v, he, hR⟩ => ⟨v, he, hr _ _ hR⟩
section
variable {P : Program} {n : Nat} {ops : Array Oper} {K : Fr → World → Prop} {l : List Oper} {f : Fr} {w w' : World} {ty : TypeId} {pos : String} {aft : Array Edge} {d : Nat}
theorem Xc {x : Operand} {v : Value} (hx : ev f x = v) (hd : Nat.blt d n = true) (h : WpO P n ops K l (up f d v) w) : WpO P n ops K (⟨some d, .move x, ty, pos, aft, none⟩ :: l) f w :=
  Zp rfl hd (by simp [execOp, hx]) h
theorem Xh {x : Operand} {v : Value} (hx : ev f x = v) (hd : Nat.blt d n = true) (h : WpO P n ops K l (up f d v) w) : WpO P n ops K (⟨some d, .assign x, ty, pos, aft, none⟩ :: l) f w :=
  Zp rfl hd (by simp [execOp, hx]) h
theorem Xr {c x y : Operand} {b : Bool} {v : Value} (hc : ev f c = .bool b) (hb : b = true) (hx : ev f x = v) (hd : Nat.blt d n = true) (h : WpO P n ops K l (up f d v) w) :
    WpO P n ops K (⟨some d, .pick c x y, ty, pos, aft, none⟩ :: l) f w :=
  Zp rfl hd (by simp [execOp, hc, hb, hx, asBool]) h
theorem Xl {c x y : Operand} {b : Bool} {v : Value} (hc : ev f c = .bool b) (hb : b = false) (hy : ev f y = v) (hd : Nat.blt d n = true) (h : WpO P n ops K l (up f d v) w) :
    WpO P n ops K (⟨some d, .pick c x y, ty, pos, aft, none⟩ :: l) f w :=
  Zp rfl hd (by simp [execOp, hc, hb, hy, asBool]) h
theorem Yu {T : TypeId} {x : Operand} {v : Value} {cs : Array Value} (hx : ev f x = v) (hcs : v.cells = cs) (hd : Nat.blt d n = true)
    (h : ∀ B w', NewB w w' B T cs → WpO P n ops K l (up f d (.pointer (some ⟨B, 0, none⟩))) w') : WpO P n ops K (⟨some d, .box T x, ty, pos, aft, none⟩ :: l) f w :=
  Zp rfl hd (by simp [execOp, hx, Instr.box, newVar, newRow, newObj, hcs]; rfl) (h _ _ (Ko w T cs))
theorem Yj {T : TypeId} {z : Value} {cs : Array Value} (hz : zeroTy P T = some z) (hcs : z.cells = cs) (hd : Nat.blt d n = true)
    (h : ∀ B w', NewB w w' B T cs → WpO P n ops K l (up f d (.pointer (some ⟨B, 0, none⟩))) w') : WpO P n ops K (⟨some d, .alloc T, ty, pos, aft, none⟩ :: l) f w :=
  Zp rfl hd (by simp [execOp, Instr.alloc, P3 hz, newVar, newRow, newObj, hcs]; rfl) (h _ _ (Ko w T cs))
theorem Xi {t : TypeId} {x : Operand} {a : Addr} {v : Value} (ht : oneTy P t = true) (hx : ev f x = .pointer (some a)) (hc : w.cell? a = some v) (hd : Nat.blt d n = true)
    (h : WpO P n ops K l (up f d v) w) : WpO P n ops K (⟨some d, .load t x, ty, pos, aft, none⟩ :: l) f w :=
  Zp rfl hd (by simp [execOp, hx, Nj ht hc]) h
theorem Xu {t k b o : Nat} {x : Operand} {vs : List Value} (ht : rowTy P t = some k) (hx : ev f x = .pointer (some ⟨b, o, none⟩)) (hl : vs.length = k) (hr : w.rangeAt b o vs) (hd : Nat.blt d n = true)
    (h : WpO P n ops K l (up f d (.agg vs.toArray)) w) : WpO P n ops K (⟨some d, .load t x, ty, pos, aft, none⟩ :: l) f w :=
  Zp rfl hd (by simp [execOp, hx, L1 ht hl hr]) h
theorem Yc {t b o : Nat} {x y : Operand} {T : TypeId} {cs cs' : Array Value} {v : Value} (ht : oneTy P t = true) (hx : ev f x = .pointer (some ⟨b, o, none⟩)) (hy : ev f y = v) (h1 : v.oneCell' = true)
    (hb : Blk w b T cs) (ho : o < cs.size) (hcs : cs.setIfInBounds o v = cs') (h : ∀ w', SetB w w' b T cs' → WpO P n ops K l f w') : WpO P n ops K (⟨none, .store t x y, ty, pos, aft, none⟩ :: l) f w :=
  Vi rfl rfl (by simp [execOp, hx, hy, Ve ht h1 hb ho, hcs]) (h _ (setB_setRow hb cs'))
theorem Xz {t k b o : Nat} {x y : Operand} {T : TypeId} {cs cs' : Array Value} {vs : List Value} (ht : rowTy P t = some k) (hx : ev f x = .pointer (some ⟨b, o, none⟩)) (hy : ev f y = .agg vs.toArray) (hl : vs.length = k)
    (h1 : ∀ v ∈ vs, v.oneCell' = true) (hb : Blk w b T cs) (ho : o + k ≤ cs.size) (hcs : (cs.toList.take o ++ vs ++ cs.toList.drop (o + k)).toArray = cs') (h : ∀ w', SetB w w' b T cs' → WpO P n ops K l f w') :
    WpO P n ops K (⟨none, .store t x y, ty, pos, aft, none⟩ :: l) f w :=
  Vi rfl rfl (by simp only [execOp, hx, hy, Sem.run_bind, Un ht hl h1 hb ho, hcs, Result.andThen_ok]; rfl) (h _ (setB_setRow hb cs'))
theorem Xd {s k j b o o' : Nat} {x : Operand} (hf : fieldOff P s k = some j) (hx : ev f x = .pointer (some ⟨b, o, none⟩)) (e : o + j = o') (hd : Nat.blt d n = true)
    (h : WpO P n ops K l (up f d (.pointer (some ⟨b, o', none⟩))) w) : WpO P n ops K (⟨some d, .fieldAddr s x k, ty, pos, aft, none⟩ :: l) f w :=
  Zp rfl hd (by simp [execOp, hx, Gp hf e]) h
theorem X8 {t sz b o o' len cap : Nat} {x y : Operand} {k : IntKind} {i : Int} (ht : elemSz P t = some sz) (hx : ev f x = .slice (some ⟨b, o, none⟩) len cap) (hy : ev f y = .int k i) (h0 : 0 ≤ i) (h1 : i < len)
    (e : o + i.toNat * sz = o') (hd : Nat.blt d n = true) (h : WpO P n ops K l (up f d (.pointer (some ⟨b, o', none⟩))) w) : WpO P n ops K (⟨some d, .indexAddr t x y, ty, pos, aft, none⟩ :: l) f w :=
  Zp rfl hd (by simp [execOp, hx, hy, Ny ht h0 h1 e]) h
theorem Yd {t sz len cap b q o' : Nat} {a : Option Addr} {x y : Operand} {k : IntKind} {i : Int} (ht : elemSz P t = some sz) (hx : ev f x = .slice a len cap) (hy : ev f y = .int k i) (ha : a = some ⟨b, q, none⟩) (e : q + i.toNat * sz = o') (h0 : 0 ≤ i) (h1 : i < len)
    (hd : Nat.blt d n = true) (h : WpO P n ops K l (up f d (.pointer (some ⟨b, o', none⟩))) w) : WpO P n ops K (⟨some d, .indexAddr t x y, ty, pos, aft, none⟩ :: l) f w := by
  subst ha
  exact X8 ht hx hy h0 h1 e hd h
theorem R9 {t et : TypeId} {a : Option Addr} {m c : Nat} (ht : (match P.underlying t with | some (.slice _) => true | _ => false) = true) : (Builtin.len_ #[t] et #[.slice a m c]).run P w = .ok (.int .i64 (m : Int)) w := by
  cases hu : P.underlying t with
  | none => rw [hu] at ht; cases ht
  | some dd =>
    rw [hu] at ht
    cases dd with
    | slice e => exact run_len_slice w t et a m c (by simp [Program.elem, hu])
    | _ => cases ht
theorem Ym {t : TypeId} {a : Option Addr} {m c : Nat} {x : Operand} (ht : (match P.underlying t with | some (.slice _) => true | _ => false) = true) (hx : ev f x = .slice a m c) (hd : Nat.blt d n = true)
    (h : WpO P n ops K l (up f d (.int .i64 (m : Int))) w) : WpO P n ops K (⟨some d, .call ⟨.builtin .len, #[x], #[t]⟩, ty, pos, aft, none⟩ :: l) f w :=
  Zp rfl hd (by simp [execOp, resolve, invoke, builtin, hx, R9 ht]) h
theorem Zu {x : Operand} {a : Addr} (hx : ev f x = .pointer (some a)) (hd : Nat.blt d n = true) (h : WpO P n ops K l (up f d (.pointer (some a))) w) : WpO P n ops K (⟨some d, .nilCheck x, ty, pos, aft, none⟩ :: l) f w :=
  Zp rfl hd (by simp [execOp, hx]) h
theorem Yz {x : Operand} {i : Nat} {vs : Array Value} {v : Value} (hx : ev f x = .tuple vs) (hv : vs[i]? = some v) (hd : Nat.blt d n = true) (h : WpO P n ops K l (up f d v) w) : WpO P n ops K (⟨some d, .extract x i, ty, pos, aft, none⟩ :: l) f w :=
  Zp rfl hd (by simp [execOp, hx, Instr.extract, hv]) h
theorem Yk {t : TypeId} {x : Operand} {b b' : Bool} (hx : ev f x = .bool b) (hb : (!b) = b') (hd : Nat.blt d n = true) (h : WpO P n ops K l (up f d (.bool b')) w) : WpO P n ops K (⟨some d, .unOp .not t x, ty, pos, aft, none⟩ :: l) f w :=
  Zp rfl hd (by simp [execOp, hx, Op.unary, hb]) h
theorem Rk {t : TypeId} (ht : P.underlying t = some .bool) (a b : Bool) : (binOp .neq t (.bool a) (.bool b)).run P w = .ok (.bool (!decide (a = b))) w := by
  have h : ∀ d : Nat, (Op.equalIn (d + 1) t (.bool a) (.bool b)).run P w = .ok (a == b) w := fun d => run_equalIn_bool' w d t a b ht
  simp only [binOp]
  simp [Op.equal, Op.maxDepth, h 9999, Tn]
theorem Qu {bo : BinOp} {xt yt : TypeId} {x y : Operand} {u u' v : Value} (hx : ev f x = u) (hy : ev f y = u') (hr : (binOp bo xt u u').run P w = .ok v w) (hg : ∀ x y, eqGuard bo xt x y u u' = pure ()) (hd : Nat.blt d n = true)
    (h : WpO P n ops K l (up f d v) w) : WpO P n ops K (⟨some d, .binOp bo xt x y yt, ty, pos, aft, none⟩ :: l) f w :=
  Zp rfl hd (by simp [execOp, hx, hy, hr, hg]) h
theorem Yw {t : TypeId} {parts : Array (Nat × Operand)} {ps : List (Nat × Value)} {v : Value} (hp : parts.toList.map (fun p => (p.1, ev f p.2)) = ps) (hb : (Instr.build t ps.toArray).run P w = .ok v w) (hd : Nat.blt d n = true)
    (h : WpO P n ops K l (up f d v) w) : WpO P n ops K (⟨some d, .build t parts, ty, pos, aft, none⟩ :: l) f w :=
  Zp rfl hd (by
    have e : (parts.map fun p => (p.1, ev f p.2)) = ps.toArray := by rw [← hp]; apply Array.ext'; simp
    show ((do pure (Next.value (← Instr.build t (parts.map fun p => (p.1, ev f p.2)))) : Sem Next)).run P w = _
    rw [e, Sem.run_bind, hb]
    rfl) h
theorem Je {t : TypeId} {x : Operand} {v : Value} (ht : (Instr.makeInterface t v).run P w = .ok (.iface t v) w) (hx : ev f x = v) (hd : Nat.blt d n = true) (h : WpO P n ops K l (up f d (.iface t v)) w) :
    WpO P n ops K (⟨some d, .makeInterface t x, ty, pos, aft, none⟩ :: l) f w := Zp rfl hd (by simp [execOp, hx, ht]) h
theorem Wz {k : FuncId} {cap : Array Operand} {vs : List Value} (hc : cap.toList.map (ev f) = vs) (hd : Nat.blt d n = true) (h : WpO P n ops K l (up f d (.func (.func k) #[] vs.toArray)) w) :
    WpO P n ops K (⟨some d, .makeFunc (.func k) #[] cap, ty, pos, aft, none⟩ :: l) f w := Zp rfl hd (by
      have : cap.map (ev f) = vs.toArray := by rw [← hc]; apply Array.ext'; simp
      simp [execOp, Instr.makeFunc, this]) h
theorem Gy {a : Int} (h0 : 0 ≤ a) (h1 : a ≤ 18446744073709551615) : IntKind.u64.wrap a = a := by rw [IntKind.wrap_u64]; omega
theorem Up {a : Int} (h0 : -9223372036854775808 ≤ a) (h1 : a ≤ 9223372036854775807) : IntKind.i64.wrap a = a := IntWalk.i64_in a (by omega)
theorem Kw {s t : TypeId} {x : Operand} {k k' : IntKind} {a c : Int} (hx : ev f x = .int k a) (hs : (P.underlying s).isSome = true) (ht : P.underlying t = some (.int k')) (hc : k'.wrap a = c) (hd : Nat.blt d n = true)
    (h : WpO P n ops K l (up f d (.int k' c)) w) : WpO P n ops K (⟨some d, .convert s t x, ty, pos, aft, none⟩ :: l) f w :=
  Zp rfl hd (by
    obtain ⟨ds, hs'⟩ := Option.isSome_iff_exists.1 hs
    simp [execOp, hx, convert, run_underlying hs', run_underlying ht, Conv.intToInt, hc]) h
theorem Lh {bo : BinOp} {t yt : TypeId} {x y : Operand} {u v : Value} {q q' : Bool} (hx : ev f x = u) (hy : ev f y = v) (hg : (eqGuard bo t x y u v).run P w = .ok () w) (hr : (binOp bo t u v).run P w = .ok (.bool q') w) (hq : q' = q)
    (hd : Nat.blt d n = true) (h : WpO P n ops K l (up f d (.bool q)) w) : WpO P n ops K (⟨some d, .binOp bo t x y yt, ty, pos, aft, none⟩ :: l) f w :=
  Zp rfl hd (by simp only [execOp, hx, hy, Sem.run_bind, hg, hr, Result.andThen_ok, hq]; rfl) h
theorem Ug {t yt : TypeId} {x y : Operand} {a b q : Bool} (ht : P.underlying t = some .bool) (hx : ev f x = .bool a) (hy : ev f y = .bool b) (hq : (!decide (a = b)) = q) (hd : Nat.blt d n = true)
    (h : WpO P n ops K l (up f d (.bool q)) w) : WpO P n ops K (⟨some d, .binOp .neq t x y yt, ty, pos, aft, none⟩ :: l) f w :=
  Qu hx hy (by rw [Rk ht, hq]) (fun _ _ => eqGuard_at_bool ..) hd h
section ints
variable {xt yt : TypeId} {x y : Operand} {k : IntKind} {a b c : Int}
theorem Yx (hx : ev f x = .int .i64 a) (hy : ev f y = .int .i64 b) (hc : a + b = c) (h0 : -9223372036854775808 ≤ c) (h1 : c ≤ 9223372036854775807) (hd : Nat.blt d n = true) (h : WpO P n ops K l (up f d (.int .i64 c)) w) :
    WpO P n ops K (⟨some d, .binOp .add xt x y yt, ty, pos, aft, none⟩ :: l) f w :=
  Qu hx hy (by rw [binOp_add]; simp [Op.intArith, hc, IntWalk.i64_in c (by omega)]) (fun _ _ => eqGuard_at_int ..) hd h
theorem Y3 (hx : ev f x = .int .i64 a) (hy : ev f y = .int .i64 b) (hc : a - b = c) (h0 : -9223372036854775808 ≤ c) (h1 : c ≤ 9223372036854775807) (hd : Nat.blt d n = true) (h : WpO P n ops K l (up f d (.int .i64 c)) w) :
    WpO P n ops K (⟨some d, .binOp .sub xt x y yt, ty, pos, aft, none⟩ :: l) f w :=
  Qu hx hy (by rw [binOp_sub]; simp [Op.intArith, hc, IntWalk.i64_in c (by omega)]) (fun _ _ => eqGuard_at_int ..) hd h
theorem Jg (hx : ev f x = .int .i64 a) (hy : ev f y = .int .i64 b) (h0 : 0 ≤ a) (h1 : 0 < b) (h2 : a ≤ 9223372036854775807) (hc : a / b = c) (hd : Nat.blt d n = true) (h : WpO P n ops K l (up f d (.int .i64 c)) w) :
    WpO P n ops K (⟨some d, .binOp .quo xt x y yt, ty, pos, aft, none⟩ :: l) f w :=
  Qu hx hy (by
    rw [binOp_quo]
    have hb : b ≠ 0 := by omega
    have h3 : a / b ≤ a := Int.ediv_le_self _ h0
    have h4 : 0 ≤ a / b := Int.ediv_nonneg h0 (by omega)
    rw [hc] at h3 h4
    simp [Op.intDiv, hb, Int.tdiv_eq_ediv_of_nonneg h0, hc, IntWalk.i64_in c (by omega)]) (fun _ _ => eqGuard_at_int ..) hd h
theorem Kj (hx : ev f x = .int .i64 a) (hy : ev f y = .int .i64 b) (h0 : 0 ≤ a) (h1 : 0 < b) (_h2 : a ≤ 9223372036854775807) (hc : a % b = c) (hd : Nat.blt d n = true) (h : WpO P n ops K l (up f d (.int .i64 c)) w) :
    WpO P n ops K (⟨some d, .binOp .rem xt x y yt, ty, pos, aft, none⟩ :: l) f w :=
  Qu hx hy (by
    rw [binOp_rem]
    have hb : b ≠ 0 := by omega
    simp [Op.intDiv, hb, Int.tmod_eq_emod_of_nonneg h0, hc]) (fun _ _ => eqGuard_at_int ..) hd h
theorem Vm (hx : ev f x = .int .i64 a) (hy : ev f y = .int .i64 b) (hc : a * b = c) (h0 : -9223372036854775808 ≤ c) (h1 : c ≤ 9223372036854775807) (hd : Nat.blt d n = true) (h : WpO P n ops K l (up f d (.int .i64 c)) w) :
    WpO P n ops K (⟨some d, .binOp .mul xt x y yt, ty, pos, aft, none⟩ :: l) f w :=
  Qu hx hy (by rw [binOp_mul]; simp [Op.intArith, hc, IntWalk.i64_in c (by omega)]) (fun _ _ => eqGuard_at_int ..) hd h
theorem Y4 {q : Bool} (hx : ev f x = .int k a) (hy : ev f y = .int k b) (hq : decide (a < b) = q) (hd : Nat.blt d n = true) (h : WpO P n ops K l (up f d (.bool q)) w) : WpO P n ops K (⟨some d, .binOp .lss xt x y yt, ty, pos, aft, none⟩ :: l) f w :=
  Qu hx hy (by rw [binOp_lss, ← hq]; rfl) (fun _ _ => eqGuard_at_int ..) hd h
theorem Jz {q : Bool} (hx : ev f x = .int k a) (hy : ev f y = .int k b) (hq : decide (a ≤ b) = q) (hd : Nat.blt d n = true) (h : WpO P n ops K l (up f d (.bool q)) w) : WpO P n ops K (⟨some d, .binOp .leq xt x y yt, ty, pos, aft, none⟩ :: l) f w :=
  Qu hx hy (by rw [binOp_leq, ← hq]; rfl) (fun _ _ => eqGuard_at_int ..) hd h
theorem Zq {q : Bool} (hx : ev f x = .int k a) (hy : ev f y = .int k b) (hq : decide (b < a) = q) (hd : Nat.blt d n = true) (h : WpO P n ops K l (up f d (.bool q)) w) : WpO P n ops K (⟨some d, .binOp .gtr xt x y yt, ty, pos, aft, none⟩ :: l) f w :=
  Qu hx hy (by rw [binOp_gtr, ← hq]; rfl) (fun _ _ => eqGuard_at_int ..) hd h
theorem Vl {q : Bool} (hx : ev f x = .int k a) (hy : ev f y = .int k b) (hq : decide (b ≤ a) = q) (hd : Nat.blt d n = true) (h : WpO P n ops K l (up f d (.bool q)) w) : WpO P n ops K (⟨some d, .binOp .geq xt x y yt, ty, pos, aft, none⟩ :: l) f w :=
  Qu hx hy (by rw [binOp_geq, ← hq]; rfl) (fun _ _ => eqGuard_at_int ..) hd h
theorem X4 {q : Bool} (hx : ev f x = .int k a) (hy : ev f y = .int k b) (hq : decide (a = b) = q) (hd : Nat.blt d n = true) (h : WpO P n ops K l (up f d (.bool q)) w) : WpO P n ops K (⟨some d, .binOp .eql xt x y yt, ty, pos, aft, none⟩ :: l) f w :=
  Qu hx hy (by rw [binOp_eql, ← hq, Tn]; rfl) (fun _ _ => eqGuard_at_int ..) hd h
theorem Y7 {q : Bool} (hx : ev f x = .int k a) (hy : ev f y = .int k b) (hq : (!decide (a = b)) = q) (hd : Nat.blt d n = true) (h : WpO P n ops K l (up f d (.bool q)) w) : WpO P n ops K (⟨some d, .binOp .neq xt x y yt, ty, pos, aft, none⟩ :: l) f w :=
  Qu hx hy (by rw [binOp_neq, ← hq, bne, Tn]; rfl) (fun _ _ => eqGuard_at_int ..) hd h
end ints
theorem Xn {k : FuncId} {args : Array Operand} {tys : Array TypeId} {vs : List Value} {R : Value → World → Prop} (hk : goFn P k = true) (ha : args.toList.map (ev f) = vs) (hd : Nat.blt d n = true) (hc : CallsR P k vs.toArray w R)
    (h : ∀ v w', R v w' → WpO P n ops K l (up f d v) w') : WpO P n ops K (⟨some d, .call ⟨.value (.func k), args, tys⟩, ty, pos, aft, none⟩ :: l) f w :=
  N3 (R := R) (k := k) (args := vs.toArray) rfl hd (by
    have : args.map (ev f) = vs.toArray := by rw [← ha]; apply Array.ext'; simp
    simp [execOp, resolve, ev, Deferred.ofValue, invoke, this, H1 hk]) hc h
end
end Go.Dw
end
section
namespace Go.Dw
open Go.RowKit
def befores (ops : List Oper) : List (List Nat) :=
  ops.foldl (init := []) fun acc o =>
    acc ++ [o.after.toList.foldl (init := []) fun s e => if Region.binds .any e then s ++ e.on :: acc.getD e.on [] else s]
def looks (ops : List Oper) (o : Oper) : List Nat :=
  (o.op.operands.toList.filterMap fun | .tmp t => some t | _ => none) ++
  (match o.guard with
   | some (g, _) => ((ops[g]?).bind (·.dst)).toList
   | none => [])
def notSel (o : Oper) : Bool := match o.op with | .select .. => false | _ => true
def drawOne (n m : Nat) (ops : List Oper) (bs : List (List Nat)) (i : Nat) (o : Oper) : Bool :=
  o.after.toList.all (fun e => !Region.binds .any e || decide (e.on < i)) &&
  (bs.getD i []).all (fun j => o.after.toList.any fun e => Region.binds .any e && (e.on == j || (bs.getD e.on []).contains j)) &&
  (if i < m then
    notSel o && (match o.dst with | some d => decide (d < n) | none => false) &&
    (looks ops o).all fun t => (List.range m).all fun j => (match ops[j]? with | some oj => oj.dst != some t | none => true) || (bs.getD i []).contains j
   else (List.range i).all fun j => (bs.getD i []).contains j)
def tailOne (m : Nat) (bs : List (List Nat)) (i : Nat) (o : Oper) : Bool :=
  o.after.toList.all (fun e => !Region.binds .any e || decide (e.on < i)) &&
  (bs.getD i []).all (fun j => o.after.toList.any fun e => Region.binds .any e && (e.on == j || (bs.getD e.on []).contains j)) &&
  (decide (i < m) || (List.range i).all fun j => (bs.getD i []).contains j)
theorem Uj {n m : Nat} {ops : List Oper} {bs : List (List Nat)} {i : Nat} {o : Oper} (h : drawOne n m ops bs i o = true) : tailOne m bs i o = true := by
  unfold drawOne at h
  unfold tailOne
  simp only [Bool.and_eq_true] at h ⊢
  refine ⟨h.1, ?_⟩
  rcases Nat.lt_or_ge i m with h' | h'
  · simp [h']
  · have := h.2
    rw [if_neg (by omega)] at this
    rw [this, Bool.or_true]
def drawOkI (m : Nat) (ops : List Oper) (bs : List (List Nat)) : Bool :=
  decide (m ≤ ops.length) && (List.range ops.length).all fun i => match ops[i]? with | some o => tailOne m bs i o | none => true
def drawOk (n m : Nat) (ops : List Oper) (bs : List (List Nat)) : Bool :=
  decide (m ≤ ops.length) &&
  (List.range m).all (fun i => (List.range m).all fun j => i == j || (match ops[i]?, ops[j]? with | some oi, some oj => oi.dst != oj.dst | _, _ => true)) &&
  (List.range ops.length).all fun i => match ops[i]? with | some o => drawOne n m ops bs i o | none => true
def ups (f : Fr) : List (Nat × Value) → Fr
  | [] => f
  | (d, v) :: r => ups (up f d v) r
def YlL (P : Program) (n : Nat) (ops : Array Oper) (Inv : World → Prop) (F : Fr) : List Oper → List (Nat × Value) → Prop
  | [], [] => True
  | o :: l, (d, v) :: r => o.dst = some d ∧ (∀ w, Inv w → WpO P n ops (fun f' w' => f' = up F d v ∧ Inv w') [o] F w) ∧ YlL P n ops Inv F l r
  | _, _ => False
theorem Zj {P : Program} {n : Nat} {ops : Array Oper} {Inv : World → Prop} {F : Fr} : YlL P n ops Inv F [] [] := trivial
theorem Xj {P : Program} {n : Nat} {ops : Array Oper} {Inv : World → Prop} {F : Fr} {o : Oper} {l : List Oper} {d : Nat} {v : Value} {r : List (Nat × Value)} (hd : o.dst = some d)
    (h : ∀ w, Inv w → WpO P n ops (fun f' w' => f' = up F d v ∧ Inv w') [o] F w) (t : YlL P n ops Inv F l r) : YlL P n ops Inv F (o :: l) ((d, v) :: r) := ⟨hd, h, t⟩
theorem Gb {ρ ρ' : Operand → Value} {o : Oper} (hs : notSel o = true) (h : ∀ x ∈ o.op.operands, ρ x = ρ' x) : execOp ρ o = execOp ρ' o := by
  obtain ⟨dst, op, ty, pos, aft, gd⟩ := o
  have hcall : ∀ c : Call, (∀ x ∈ c.operands, ρ x = ρ' x) → resolve ρ c ty = resolve ρ' c ty := by
    intro c hc
    have hargs : c.args.map ρ = c.args.map ρ' := Array.map_congr_left fun x hx => hc x (by simp [Call.operands, hx])
    unfold resolve
    rw [hargs]
    cases hcal : c.callee with
    | value g => simp only; rw [hc g (by simp [Call.operands, hcal])]
    | invoke r nm => simp only; rw [hc r (by simp [Call.operands, hcal])]
    | builtin b => rfl
  cases op with
  | select cs b => cases hs
  | call c => simp only [execOp]; rw [hcall c (by simpa [Op.operands] using h)]
  | go c => simp only [execOp]; rw [hcall c (by simpa [Op.operands] using h)]
  | defer c => simp only [execOp]; rw [hcall c (by simpa [Op.operands] using h)]
  | build t ps =>
    simp only [execOp]
    have : (ps.map fun (i, x) => (i, ρ x)) = (ps.map fun (i, x) => (i, ρ' x)) := Array.map_congr_left fun p hp => by
      have := h p.2 (by simp only [Op.operands]; simp; exact ⟨p.1, hp⟩)
      simp [this]
    rw [this]
  | buildSlice t k ps =>
    simp only [execOp]
    have : (ps.map fun (i, x) => (i, ρ x)) = (ps.map fun (i, x) => (i, ρ' x)) := Array.map_congr_left fun p hp => by
      have := h p.2 (by simp only [Op.operands]; simp; exact ⟨p.1, hp⟩)
      simp [this]
    rw [this]
  | makeFunc fn a b =>
    simp only [execOp]
    rw [Array.map_congr_left (f := ρ) (g := ρ') (xs := a) fun x hx => h x (by simp [Op.operands, hx]), Array.map_congr_left (f := ρ) (g := ρ') (xs := b) fun x hx => h x (by simp [Op.operands, hx])]
  | makeMap t r =>
    simp only [execOp]
    cases r with
    | none => rfl
    | some x => simp only [Option.map_some]; rw [h x (by simp [Op.operands])]
  | slice t x lo hi mx =>
    simp only [execOp]
    have hx := h x (by simp [Op.operands])
    have hlo : lo.map ρ = lo.map ρ' := by cases lo with | none => rfl | some y => simp only [Option.map_some]; rw [h y (by simp [Op.operands])]
    have hhi : hi.map ρ = hi.map ρ' := by cases hi with | none => rfl | some y => simp only [Option.map_some]; rw [h y (by simp [Op.operands])]
    have hmx : mx.map ρ = mx.map ρ' := by cases mx with | none => rfl | some y => simp only [Option.map_some]; rw [h y (by simp [Op.operands])]
    rw [hx, hlo, hhi, hmx]
  | binOp bo t x y yt => simp only [execOp]; rw [h x (by simp [Op.operands]), h y (by simp [Op.operands])]
  | pick c a b => simp only [execOp]; rw [h c (by simp [Op.operands]), h a (by simp [Op.operands]), h b (by simp [Op.operands])]
  | nilCheck x => simp only [execOp]; rw [h x (by simp [Op.operands])]
  | alloc t => rfl
  | ready g => rfl
  | waits g => rfl
  | store t x y => simp only [execOp]; rw [h x (by simp [Op.operands]), h y (by simp [Op.operands])]
  | makeSlice t x y => simp only [execOp]; rw [h x (by simp [Op.operands]), h y (by simp [Op.operands])]
  | indexAddr t x y => simp only [execOp]; rw [h x (by simp [Op.operands]), h y (by simp [Op.operands])]
  | index t x y => simp only [execOp]; rw [h x (by simp [Op.operands]), h y (by simp [Op.operands])]
  | lookup t x y ok => simp only [execOp]; rw [h x (by simp [Op.operands]), h y (by simp [Op.operands])]
  | mapEntry t x y => simp only [execOp]; rw [h x (by simp [Op.operands]), h y (by simp [Op.operands])]
  | mapUpdate t x y z => simp only [execOp]; rw [h x (by simp [Op.operands]), h y (by simp [Op.operands]), h z (by simp [Op.operands])]
  | entryStore t x y z => simp only [execOp]; rw [h x (by simp [Op.operands]), h y (by simp [Op.operands]), h z (by simp [Op.operands])]
  | insert t x y z => simp only [execOp]; rw [h x (by simp [Op.operands]), h y (by simp [Op.operands]), h z (by simp [Op.operands])]
  | send x y => simp only [execOp]; rw [h x (by simp [Op.operands]), h y (by simp [Op.operands])]
  | move x => simp only [execOp]; rw [h x (by simp [Op.operands])]
  | assign x => simp only [execOp]; rw [h x (by simp [Op.operands])]
  | box t x => simp only [execOp]; rw [h x (by simp [Op.operands])]
  | load t x => simp only [execOp]; rw [h x (by simp [Op.operands])]
  | unOp u t x => simp only [execOp]; rw [h x (by simp [Op.operands])]
  | convert s t x => simp only [execOp]; rw [h x (by simp [Op.operands])]
  | sliceToArrayPointer t x => simp only [execOp]; rw [h x (by simp [Op.operands])]
  | makeInterface t x => simp only [execOp]; rw [h x (by simp [Op.operands])]
  | makeChan t x => simp only [execOp]; rw [h x (by simp [Op.operands])]
  | fieldAddr t x i => simp only [execOp]; rw [h x (by simp [Op.operands])]
  | field t x i => simp only [execOp]; rw [h x (by simp [Op.operands])]
  | range t x => simp only [execOp]; rw [h x (by simp [Op.operands])]
  | next x b => simp only [execOp]; rw [h x (by simp [Op.operands])]
  | entry x => simp only [execOp]; rw [h x (by simp [Op.operands])]
  | typeAssert x t u b => simp only [execOp]; rw [h x (by simp [Op.operands])]
  | extract x i => simp only [execOp]; rw [h x (by simp [Op.operands])]
  | panic x => simp only [execOp]; rw [h x (by simp [Op.operands])]
  | recv t x b => simp only [execOp]; rw [h x (by simp [Op.operands])]
theorem Gc (ops : Array Oper) (t t' : Array Value) (j : Nat) (h : ∀ o d, ops[j]? = some o → o.dst = some d → t.getD d undef = t'.getD d undef) : yielded ops t j = yielded ops t' j := by
  unfold yielded
  cases ho : ops[j]? with
  | none => rfl
  | some o =>
    cases hd : o.dst with
    | none => simp [hd]
    | some d =>
      have := h o d ho hd
      simp only [Option.bind_some, hd]
      rw [Array.getD_eq_getD_getElem?, Array.getD_eq_getD_getElem?] at this
      cases h1 : t[d]? with
      | none =>
        cases h2 : t'[d]? with
        | none => rfl
        | some y => rw [h1, h2] at this; simp at this; subst this; rfl
      | some x =>
        cases h2 : t'[d]? with
        | none => rw [h1, h2] at this; simp at this; subst this; rfl
        | some y => rw [h1, h2] at this; simp at this; rw [this]
section
variable {P : Program} {n : Nat} {ops : List Oper} {F : Fr} {Inv : World → Prop}
theorem loc {i d : Nat} {o : Oper} {v : Value} {w : World} {a aF : Act} (ho : ops[i]? = some o) (hs : notSel o = true) (hd : o.dst = some d) (hdn : d < n) (hF : FEq n aF F)
    (h : WpO P n ops.toArray (fun f' w' => f' = up F d v ∧ Inv w') [o] F w) (hl : ∀ t ∈ looks ops o, a.tmps.getD t undef = F t)
    {K : Act → World → Prop} {Q : Exit → Act → World → Prop} (hK : ∀ w', Inv w' → K (a.put (some d) v) w') : wpOp P ops.toArray Q i K a w := by
  have h1 := h aF hF (fun e a' w' => e = .normal ∧ ∃ f', FEq n a' f' ∧ f' = up F d v ∧ Inv w') (fun a' w' f' hf hk => ⟨rfl, f', hf, hk⟩)
  have hout : ¬ LetsOut (fun (e : Exit) (a' : Act) (w' : World) => e = .normal ∧ ∃ f', FEq n a' f' ∧ f' = up F d v ∧ Inv w') := by
    rintro ⟨_, _, he, _⟩
    cases he
  have hval : ∀ u w', (∃ f', FEq n (aF.put (some d) u) f' ∧ f' = up F d v ∧ Inv w') → u = v ∧ Inv w' := by
    rintro u w' ⟨f', hf, rfl, hi⟩
    refine ⟨?_, hi⟩
    have e1 := hf.at_ d
    rw [Lo, if_pos rfl] at e1
    rw [← e1]
    simp [Act.put, Array.getD, hF.size, hdn]
  have he : execOp a.eval o = execOp aF.eval o := Gb hs fun x hx => by
    cases x with
    | tmp t =>
      show a.tmps.getD t undef = aF.tmps.getD t undef
      rw [hl t (by simp only [looks]; refine List.mem_append_left _ (List.mem_filterMap.2 ⟨_, by simpa using hx, rfl⟩)), hF.at_ t]
    | _ => rfl
  have hw : Region.wanted o (yielded ops.toArray a.tmps) = Region.wanted o (yielded ops.toArray aF.tmps) := by
    unfold Region.wanted
    cases hg : o.guard with
    | none => rfl
    | some g =>
      obtain ⟨j, b⟩ := g
      simp only
      rw [Gc _ a.tmps aF.tmps j]
      intro oj dj hoj hdj
      rw [hF.at_ dj]
      refine hl dj ?_
      simp only [looks, hg]
      refine List.mem_append_right _ ?_
      have hoj' : ops[j]? = some oj := by simpa using hoj
      simp [hoj', hdj]
  have ho' : ops.toArray[i]? = some o := by simpa using ho
  have hK' : ∀ w', Inv w' → K (a.put o.dst v) w' := by rw [hd]; exact hK
  have hval' : ∀ u w', (∃ f', FEq n (aF.put o.dst u) f' ∧ f' = up F d v ∧ Inv w') → u = v ∧ Inv w' := by rw [hd]; exact hval
  unfold wpOp
  rw [ho']
  simp only
  unfold wpList at h1
  rw [hw]
  split
  · rename_i hwt
    rw [if_pos hwt] at h1
    rcases h1 with h1 | ⟨_, h1⟩
    · left
      unfold Oper.wp at h1 ⊢
      rw [he]
      generalize (execOp aF.eval o).run P w = r at h1 ⊢
      cases r with
      | ok x w' =>
        cases x <;> simp only [Oper.upon, wpList] at h1 ⊢
        case value u =>
          obtain ⟨rfl, hi⟩ := hval' u w' h1.2
          exact hK' w' hi
        case skip =>
          obtain ⟨e, hi⟩ := hval' undef w' h1.2
          rw [e]; exact hK' w' hi
        case defer dd =>
          obtain ⟨f', hf, _⟩ := h1.2
          exact absurd hf.defers (by rw [hd]; simp [Act.put])
        case enter k args =>
          refine h1.mono fun e w'' hh => ?_
          cases e with
          | returned u =>
            obtain ⟨rfl, hi⟩ := hval' u w'' hh.2
            exact hK' w'' hi
          | panicked c => exact absurd hh.1 (by simp)
          | outgrown => exact (hout hh).elim
        case row r args =>
          refine h1.mono fun u w'' hh => ?_
          obtain ⟨rfl, hi⟩ := hval' u w'' hh.2
          exact hK' w'' hi
      | halt x w' =>
        cases x <;> simp only [Oper.upon] at h1 ⊢
        case panic u => exact absurd h1.1 (by simp)
    · exact (hout h1).elim
  · rename_i hwt
    rw [if_neg hwt] at h1
    simp only [wpList] at h1
    obtain ⟨e, hi⟩ := hval' undef w h1.2
    rw [e]
    exact hK' w hi
theorem Kh {md : Region.Mode} {m : Nat} {bs : List (List Nat)} {Q : Exit → Act → World → Prop} (hmd : md = .any) (hck : ∀ i o, ops[i]? = some o → tailOne m bs i o = true) (hbs : ∀ (listed : Array Bool) (i : Nat) (o : Oper), ops[i]? = some o →
      (∀ e ∈ o.after, Region.binds .any e = true → listed.getD e.on false = true) → (∀ j, listed.getD j false = true → ∀ q ∈ bs.getD j [], listed.getD q false = true) → ∀ q ∈ bs.getD i [], listed.getD q false = true) :
    ∀ (fuel k : Nat) (listed : Array Bool) (a : Act) (w : World), m ≤ k → k ≤ ops.length → listed.size = ops.length → (∀ j, j < k → listed.getD j false = true) → (∀ j, k ≤ j → j < ops.length → listed.getD j false = false) →
      (∀ j, listed.getD j false = true → ∀ q ∈ bs.getD j [], listed.getD q false = true) → ops.length - k ≤ fuel → wpList P ops.toArray Q (ops.drop k) a w → wpAny P md ops.toArray Q fuel listed a w := by
  subst hmd
  intro fuel
  induction fuel with
  | zero =>
    intro k listed a w hmk hk hsz h1 h2 hcl hf h
    have hke : k = ops.length := by omega
    subst hke
    refine ⟨?_, by simpa [wpList] using h⟩
    unfold Region.ready
    rw [List.filter_eq_nil_iff]
    intro i hi
    have hi' : i < ops.length := by simpa using hi
    have hl := h1 i hi'
    have : listed.getD i true = true := by
      rw [Array.getD_eq_getD_getElem?] at hl ⊢
      cases hx : listed[i]? with
      | none => rfl
      | some b => rw [hx] at hl; simpa using hl
    simp [this]
  | succ fuel ih =>
    intro k listed a w hmk hk hsz h1 h2 hcl hf h
    have hready : ∀ i, i ∈ Region.ready .any ops.toArray listed → i = k ∧ k < ops.length := by
      intro i hi
      obtain ⟨hun, o, ho, hall⟩ := mem_ready.1 hi
      have ho' : ops[i]? = some o := by simpa using ho
      have hil : i < ops.length := (List.getElem?_eq_some_iff.1 ho').1
      have hun' : listed.getD i false = false := by
        rw [Array.getD_eq_getD_getElem?] at hun ⊢
        cases hx : listed[i]? with
        | none => rfl
        | some b => rw [hx] at hun; simpa using hun
      have hik : k ≤ i := by
        rcases Nat.lt_or_ge i k with h' | h'
        · rw [h1 i h'] at hun'; cases hun'
        · exact h'
      have hpre := hbs listed i o ho' (fun e he hb => hall e he hb) hcl
      have hone := hck i o ho'
      unfold tailOne at hone
      simp only [Bool.and_eq_true] at hone
      have h3 := hone.2
      rw [show decide (i < m) = false by simp; omega, Bool.false_or] at h3
      refine ⟨?_, by omega⟩
      rcases Nat.lt_or_ge k i with h' | h'
      · have := List.all_eq_true.1 h3 k (by simpa using h')
        have hmem : k ∈ bs.getD i [] := by simpa using this
        have := hpre k hmem
        rw [h2 k (Nat.le_refl _) (by omega)] at this
        cases this
      · omega
    rcases Nat.lt_or_ge k ops.length with hkl | hkl
    · obtain ⟨o, ho⟩ : ∃ o, ops[k]? = some o := ⟨_, List.getElem?_eq_getElem hkl⟩
      have hdrop : ops.drop k = o :: ops.drop (k + 1) := by
        rw [List.drop_eq_getElem_cons hkl]
        congr 1
        rw [List.getElem?_eq_getElem hkl] at ho
        exact Option.some.inj ho
      rw [hdrop] at h
      refine ⟨fun hnil => ?_, fun i hi => ?_⟩
      · exfalso
        have hkr : k ∈ Region.ready .any ops.toArray listed := by
          refine mem_ready.2 ⟨?_, o, by simpa using ho, fun e he hb => ?_⟩
          · have := h2 k (Nat.le_refl _) hkl
            rw [Array.getD_eq_getD_getElem?, Array.getElem?_eq_getElem (by omega)] at this ⊢
            simpa using this
          · have hone := hck k o ho
            unfold tailOne at hone
            simp only [Bool.and_eq_true] at hone
            have := List.all_eq_true.1 hone.1.1 e (by simpa using he)
            simp only [hb, Bool.not_true, Bool.false_or, decide_eq_true_eq] at this
            exact h1 _ this
        rw [hnil] at hkr
        cases hkr
      · obtain ⟨rfl, _⟩ := hready i hi
        have ho' : ops.toArray[i]? = some o := by simpa using ho
        have hnext : ∀ a w, wpList P ops.toArray Q (ops.drop (i + 1)) a w → wpAny P .any ops.toArray Q fuel (listed.setIfInBounds i true) a w := fun a w hh =>
          ih (i + 1) _ a w (by omega) hkl (by simp [hsz]) (fun j hj => by
            rcases Nat.lt_or_ge j i with h' | h'
            · have := h1 j h'
              rw [Array.getD_eq_getD_getElem?] at this ⊢
              rw [Array.getElem?_setIfInBounds_ne (by omega)]; exact this
            · have : j = i := by omega
              subst this
              rw [Array.getD_eq_getD_getElem?, Array.getElem?_setIfInBounds_self_of_lt (by omega)]; rfl)
            (fun j hj hjl => by
              have := h2 j (by omega) hjl
              rw [Array.getD_eq_getD_getElem?] at this ⊢
              rw [Array.getElem?_setIfInBounds_ne (by omega)]; exact this)
            (fun j hj q hq => by
              have hq' : listed.getD q false = true := by
                rcases Nat.decEq j i with hne | he
                · refine hcl j ?_ q hq
                  rw [Array.getD_eq_getD_getElem?, Array.getElem?_setIfInBounds_ne (fun e => hne e.symm)] at hj
                  rw [Array.getD_eq_getD_getElem?]; exact hj
                · subst he
                  obtain ⟨_, o2, ho2, hall⟩ := mem_ready.1 hi
                  exact hbs listed j o2 (by simpa using ho2) (fun e he hb => hall e he hb) hcl q hq
              rw [Array.getD_eq_getD_getElem?] at hq' ⊢
              by_cases hqi : q = i
              · subst hqi
                rw [Array.getElem?_setIfInBounds_self_of_lt (by omega)]; rfl
              · rw [Array.getElem?_setIfInBounds_ne (fun e => hqi e.symm)]; exact hq')
            (by omega) hh
        unfold wpOp
        rw [ho']
        simp only
        unfold wpList at h
        split
        · rename_i hw
          rw [if_pos hw] at h
          exact h.imp (Oper.wp_mono hnext) id
        · rename_i hw
          rw [if_neg hw] at h
          exact hnext _ _ h
    · have hke : k = ops.length := by omega
      subst hke
      refine ⟨fun _ => by simpa [wpList] using h, fun i hi => ?_⟩
      have := (hready i hi).2
      omega
end
def cnt (listed : Array Bool) : Nat → Nat
  | 0 => 0
  | k + 1 => cnt listed k + (if listed.getD k false then 0 else 1)
theorem Qr {listed : Array Bool} {i : Nat} (h : i < listed.size) : (listed.setIfInBounds i true).getD i false = true := by
  rw [Array.getD_eq_getD_getElem?, Array.getElem?_setIfInBounds_self_of_lt h]; rfl
theorem Z9 {listed : Array Bool} {i j : Nat} (h : j ≠ i) : (listed.setIfInBounds i true).getD j false = listed.getD j false := by
  rw [Array.getD_eq_getD_getElem?, Array.getElem?_setIfInBounds_ne (fun e => h e.symm), Array.getD_eq_getD_getElem?]
theorem U4 {listed : Array Bool} {m : Nat} : ∀ k, (∀ j, m ≤ j → j < k → listed.getD j false = false) → k - m ≤ cnt listed k
  | 0, _ => by simp
  | k + 1, h => by
    have ih := U4 k fun j h1 h2 => h j h1 (by omega)
    unfold cnt
    rcases Nat.lt_or_ge k m with hk | hk
    · omega
    · rw [h k hk (by omega)]; simp; omega
theorem U0 {listed : Array Bool} : ∀ k, cnt listed k = 0 → ∀ j, j < k → listed.getD j false = true
  | 0, _, j, hj => by omega
  | k + 1, h, j, hj => by
    unfold cnt at h
    rcases Nat.lt_or_ge j k with hk | hk
    · exact U0 k (by omega) j hk
    · have : j = k := by omega
      subst this
      cases hx : listed.getD j false with
      | true => rfl
      | false => rw [hx] at h; simp at h
theorem V4 {listed : Array Bool} {i : Nat} : ∀ k, k ≤ i → cnt (listed.setIfInBounds i true) k = cnt listed k
  | 0, _ => rfl
  | k + 1, h => by
    unfold cnt
    rw [V4 k (by omega), Z9 (by omega)]
theorem Ga {listed : Array Bool} {i : Nat} (hs : i < listed.size) (hi : listed.getD i false = false) : ∀ k, i < k → cnt (listed.setIfInBounds i true) k + 1 = cnt listed k
  | 0, h => by omega
  | k + 1, h => by
    unfold cnt
    rcases Nat.lt_or_ge i k with hk | hk
    · have := Ga hs hi k hk
      rw [Z9 (by omega)]
      omega
    · have : i = k := by omega
      subst this
      rw [V4 i (Nat.le_refl _), Qr hs, hi]
      simp
theorem Vo (N : Nat) : ∀ k, cnt (Array.replicate N false) k = k
  | 0 => rfl
  | k + 1 => by
    unfold cnt
    rw [Vo N k]
    have : (Array.replicate N false).getD k false = false := by
      rw [Array.getD_eq_getD_getElem?]
      cases h : (Array.replicate N false)[k]? with
      | none => rfl
      | some b =>
        rw [Array.getElem?_replicate] at h
        split at h <;> simp_all
    rw [this]; simp
theorem Pz {p : Nat → Bool} : ∀ m, (¬ ∀ j, j < m → p j = true) → ∃ j, j < m ∧ p j = false ∧ ∀ i, i < j → p i = true
  | 0, h => absurd (fun j hj => by omega) h
  | m + 1, h => by
    by_cases h' : ∀ j, j < m → p j = true
    · refine ⟨m, by omega, ?_, h'⟩
      cases hx : p m with
      | false => rfl
      | true =>
        exfalso
        apply h
        intro j hj
        rcases Nat.lt_or_ge j m with hk | hk
        · exact h' j hk
        · have : j = m := by omega
          rw [this]; exact hx
    · obtain ⟨j, hj, h1, h2⟩ := Pz m h'
      exact ⟨j, by omega, h1, h2⟩
theorem W5 {t : Nat} : ∀ (r : List (Nat × Value)) (f : Fr), (∀ p ∈ r, p.1 ≠ t) → ups f r t = f t
  | [], _, _ => rfl
  | (d, v) :: r, f, h => by
    unfold ups
    rw [W5 r _ fun p hp => h p (by simp [hp]), Lo, if_neg]
    exact fun e => h (d, v) (by simp) e.symm
theorem Lr {d : Nat} {v : Value} : ∀ (r : List (Nat × Value)) (f : Fr) (i : Nat), r[i]? = some (d, v) → (∀ j p, r[j]? = some p → p.1 = d → j = i) → ups f r d = v
  | [], _, _, h, _ => by simp at h
  | (d', v') :: r, f, 0, h, hu => by
    simp at h
    obtain ⟨rfl, rfl⟩ := h
    unfold ups
    rw [W5 r _ fun p hp e => by
      obtain ⟨j, hj⟩ := List.getElem?_of_mem hp
      have := hu (j + 1) p (by simpa using hj) e
      omega]
    rw [Lo, if_pos rfl]
  | (d', v') :: r, f, i + 1, h, hu => by
    unfold ups
    exact Lr r _ i (by simpa using h) fun j p hj e => by
      have := hu (j + 1) p (by simpa using hj) e
      omega
theorem W4 {n : Nat} : ∀ (r : List (Nat × Value)) (a : Act) (f : Fr), FEq n a f → (∀ p ∈ r, p.1 < n) → ∃ a', FEq n a' (ups f r)
  | [], a, _, h, _ => ⟨a, h⟩
  | (d, v) :: r, a, f, h, hr => W4 r _ _ (h.put (d := d) (by simpa [Nat.blt_eq] using hr (d, v) (by simp)) v) fun p hp => hr p (by simp [hp])
section
variable {P : Program} {n : Nat} {ops : List Oper} {F f : Fr} {Inv : World → Prop}
theorem Uc {opsA : Array Oper} : ∀ (l : List Oper) (r : List (Nat × Value)), YlL P n opsA Inv F l r → l.length = r.length ∧ ∀ (i : Nat) (o : Oper), l[i]? = some o → ∃ (d : Nat) (v : Value), r[i]? = some (d, v) ∧ o.dst = some d ∧ ∀ w, Inv w → WpO P n opsA (fun f' w' => f' = up F d v ∧ Inv w') [o] F w
  | [], [], _ => ⟨rfl, fun i o h => by simp at h⟩
  | [], _ :: _, h => h.elim
  | _ :: _, [], h => h.elim
  | o :: l, (d, v) :: r, ⟨h1, h2, h3⟩ => by
    obtain ⟨hl, hg⟩ := Uc l r h3
    refine ⟨by simp [hl], fun i o' h => ?_⟩
    cases i with
    | zero =>
      simp at h
      subst h
      exact ⟨d, v, rfl, h1, h2⟩
    | succ i => simpa using hg i o' (by simpa using h)
theorem Ky {m : Nat} {bs : List (List Nat)} (hck : drawOk n m ops bs = true) : m ≤ ops.length ∧ (∀ i j oi oj, i < m → j < m → i ≠ j → ops[i]? = some oi → ops[j]? = some oj → oi.dst ≠ oj.dst) ∧ ∀ i o, ops[i]? = some o → drawOne n m ops bs i o = true := by
  unfold drawOk at hck
  simp only [Bool.and_eq_true, decide_eq_true_eq] at hck
  obtain ⟨⟨h1, h2⟩, h3⟩ := hck
  refine ⟨h1, fun i j oi oj hi hj hne hoi hoj => ?_, fun i o ho => ?_⟩
  · have := List.all_eq_true.1 (List.all_eq_true.1 h2 i (by simpa using hi)) j (by simpa using hj)
    rw [hoi, hoj] at this
    simp [hne] at this
    exact this
  · have := List.all_eq_true.1 h3 i (by simpa using (List.getElem?_eq_some_iff.1 ho).1)
    rw [ho] at this
    exact this
theorem J5 {m : Nat} {bs : List (List Nat)} {i : Nat} {o : Oper} (h : drawOne n m ops bs i o = true) (listed : Array Bool) (hall : ∀ e ∈ o.after, Region.binds .any e = true → listed.getD e.on false = true)
    (hcl : ∀ j, listed.getD j false = true → ∀ q ∈ bs.getD j [], listed.getD q false = true) : ∀ q ∈ bs.getD i [], listed.getD q false = true := by
  intro q hq
  unfold drawOne at h
  simp only [Bool.and_eq_true] at h
  have := List.all_eq_true.1 h.1.2 q hq
  obtain ⟨e, he, hb⟩ := List.any_eq_true.1 this
  simp only [Bool.and_eq_true, Bool.or_eq_true, beq_iff_eq] at hb
  obtain ⟨hbi, hb | hb⟩ := hb
  · rw [← hb]; exact hall e (by simpa using he) hbi
  · exact hcl e.on (hall e (by simpa using he) hbi) q (by simpa using hb)
theorem Ur {m : Nat} {bs : List (List Nat)} {vals : List (Nat × Value)} {K : Fr → World → Prop} {Q : Exit → Act → World → Prop} {aF : Act} (hck : drawOk n m ops bs = true) (hF : F = ups f vals) (haF : FEq n aF F)
    (hpre : YlL P n ops.toArray Inv F (ops.take m) vals) (htail : ∀ w, Inv w → WpO P n ops.toArray K (ops.drop m) F w) (hQ : ∀ a' w' f', FEq n a' f' → K f' w' → Q .normal a' w') :
    ∀ (fuel : Nat) (listed : Array Bool) (a : Act) (w : World), a.defers = [] → a.tmps.size = n → listed.size = ops.length → Inv w → (∀ j, m ≤ j → listed.getD j false = false) →
      (∀ j, listed.getD j false = true → ∀ q ∈ bs.getD j [], listed.getD q false = true) →
      (∀ t, (∀ j o, j < m → listed.getD j false = true → ops[j]? = some o → o.dst ≠ some t) → a.tmps.getD t undef = f t) →
      (∀ j o t, j < m → listed.getD j false = true → ops[j]? = some o → o.dst = some t → a.tmps.getD t undef = F t) → cnt listed ops.length ≤ fuel → wpAny P .any ops.toArray Q fuel listed a w := by
  obtain ⟨hm, hdist, hone⟩ := Ky hck
  obtain ⟨hlen, hget⟩ := Uc _ _ hpre
  have htk : ∀ i o, i < m → ops[i]? = some o → (ops.take m)[i]? = some o := fun i o hi ho => by rw [List.getElem?_take, if_pos hi]; exact ho
  have hFd : ∀ i o d v, i < m → ops[i]? = some o → vals[i]? = some (d, v) → o.dst = some d → F d = v := fun i o d v hi ho hv hd => by
    rw [hF]
    refine Lr vals f i hv fun j p hj e => ?_
    have hjm : j < m := by
      have := (List.getElem?_eq_some_iff.1 hj).1
      rw [← hlen] at this
      simp at this
      omega
    rcases Nat.decEq j i with hne | he
    · exfalso
      obtain ⟨oj, hoj⟩ : ∃ oj, ops[j]? = some oj := ⟨_, List.getElem?_eq_getElem (by omega)⟩
      obtain ⟨d', v', hv', hd', _⟩ := hget j oj (htk j oj hjm hoj)
      rw [hj] at hv'
      have := Option.some.inj hv'
      subst this
      exact hdist j i oj o hjm hi hne hoj ho (by rw [hd', hd, ← e])
    · exact he
  have hFo : ∀ t, (∀ j o, j < m → ops[j]? = some o → o.dst ≠ some t) → F t = f t := fun t ht => by
    rw [hF]
    refine W5 vals f fun p hp e => ?_
    obtain ⟨j, hj⟩ := List.getElem?_of_mem hp
    have hjm : j < m := by
      have := (List.getElem?_eq_some_iff.1 hj).1
      rw [← hlen] at this
      simp at this
      omega
    obtain ⟨oj, hoj⟩ : ∃ oj, ops[j]? = some oj := ⟨_, List.getElem?_eq_getElem (by omega)⟩
    obtain ⟨d', v', hv', hd', _⟩ := hget j oj (htk j oj hjm hoj)
    rw [hj] at hv'
    have := Option.some.inj hv'
    subst this
    exact ht j oj hjm hoj (by rw [hd', ← e])
  intro fuel
  induction fuel with
  | zero =>
    intro listed a w had hsz hls hi hlow hcl hout hin hcnt
    have hz := U0 _ (Nat.le_zero.1 hcnt)
    refine Kh rfl (fun i o ho => Uj (hone i o ho)) (fun l i o ho hall hc => J5 (hone i o ho) l hall hc) 0 m listed a w (Nat.le_refl _) hm hls (fun j hj => hz j (by omega)) (fun j hj _ => hlow j hj) hcl ?_ ?_
    · have := U4 (listed := listed) (m := m) ops.length fun j h1 _ => hlow j h1
      omega
    · refine htail w hi a ⟨had, hsz, fun t => ?_⟩ Q hQ
      by_cases hx : ∃ j o, j < m ∧ ops[j]? = some o ∧ o.dst = some t
      · obtain ⟨j, o, hj, ho, hd⟩ := hx
        exact hin j o t hj (hz j (by omega)) ho hd
      · rw [hFo t fun j o hj ho hd => hx ⟨j, o, hj, ho, hd⟩]
        exact hout t fun j o hj _ ho hd => hx ⟨j, o, hj, ho, hd⟩
  | succ fuel ih =>
    intro listed a w had hsz hls hi hlow hcl hout hin hcnt
    by_cases hall : ∀ j, j < m → listed.getD j false = true
    · refine Kh rfl (fun i o ho => Uj (hone i o ho)) (fun l i o ho hall hc => J5 (hone i o ho) l hall hc) (fuel + 1) m listed a w (Nat.le_refl _) hm hls hall (fun j hj _ => hlow j hj) hcl ?_ ?_
      · have := U4 (listed := listed) (m := m) ops.length fun j h1 _ => hlow j h1
        omega
      · refine htail w hi a ⟨had, hsz, fun t => ?_⟩ Q hQ
        by_cases hx : ∃ j o, j < m ∧ ops[j]? = some o ∧ o.dst = some t
        · obtain ⟨j, o, hj, ho, hd⟩ := hx
          exact hin j o t hj (hall j hj) ho hd
        · rw [hFo t fun j o hj ho hd => hx ⟨j, o, hj, ho, hd⟩]
          exact hout t fun j o hj _ ho hd => hx ⟨j, o, hj, ho, hd⟩
    · obtain ⟨j0, hj0, hun0, hbelow⟩ := Pz m hall
      refine ⟨fun hnil => ?_, fun i hir => ?_⟩
      · exfalso
        obtain ⟨o, ho⟩ : ∃ o, ops[j0]? = some o := ⟨_, List.getElem?_eq_getElem (by omega)⟩
        have hkr : j0 ∈ Region.ready .any ops.toArray listed := by
          refine mem_ready.2 ⟨?_, o, by simpa using ho, fun e he hb => ?_⟩
          · rw [Array.getD_eq_getD_getElem?, Array.getElem?_eq_getElem (by omega)] at hun0 ⊢
            simpa using hun0
          · have h1 := hone j0 o ho
            unfold drawOne at h1
            simp only [Bool.and_eq_true] at h1
            have := List.all_eq_true.1 h1.1.1 e (by simpa using he)
            simp only [hb, Bool.not_true, Bool.false_or, decide_eq_true_eq] at this
            exact hbelow _ this
        rw [hnil] at hkr
        cases hkr
      · obtain ⟨hun, o, ho, hafter⟩ := mem_ready.1 hir
        have ho' : ops[i]? = some o := by simpa using ho
        have hil : i < ops.length := (List.getElem?_eq_some_iff.1 ho').1
        have hun' : listed.getD i false = false := by
          rw [Array.getD_eq_getD_getElem?, Array.getElem?_eq_getElem (by omega)] at hun ⊢
          simpa using hun
        have hprei := J5 (hone i o ho') listed (fun e he hb => hafter e he hb) hcl
        have h1 := hone i o ho'
        unfold drawOne at h1
        simp only [Bool.and_eq_true] at h1
        obtain ⟨_, h1⟩ := h1
        have him : i < m := by
          rcases Nat.lt_or_ge i m with h' | h'
          · exact h'
          · exfalso
            rw [if_neg (by omega)] at h1
            have := List.all_eq_true.1 h1 j0 (by simp; omega)
            have := hprei j0 (by simpa using this)
            rw [hun0] at this
            cases this
        rw [if_pos him] at h1
        simp only [Bool.and_eq_true] at h1
        obtain ⟨⟨hsel, hdn⟩, hlooks⟩ := h1
        obtain ⟨d, v, hv, hd, hwp⟩ := hget i o (htk i o him ho')
        rw [hd] at hdn
        have hdn' : d < n := by simpa using hdn
        refine loc ho' hsel hd hdn' haF (hwp w hi) (fun t ht => ?_) fun w' hi' => ?_
        · have h2 := List.all_eq_true.1 hlooks t ht
          by_cases hx : ∃ j oj, j < m ∧ ops[j]? = some oj ∧ oj.dst = some t
          · obtain ⟨j, oj, hj, hoj, hdj⟩ := hx
            have h3 := List.all_eq_true.1 h2 j (by simpa using hj)
            rw [hoj] at h3
            simp [hdj] at h3
            exact hin j oj t hj (hprei j (by simpa using h3)) hoj hdj
          · rw [hFo t fun j o hj ho hd => hx ⟨j, o, hj, ho, hd⟩]
            exact hout t fun j o hj _ ho hd => hx ⟨j, o, hj, ho, hd⟩
        · have hput : ∀ t, t ≠ d → (a.put (some d) v).tmps.getD t undef = a.tmps.getD t undef := fun t ht => by
            simp only [Act.put]
            rw [Array.getD_eq_getD_getElem?, Array.getElem?_setIfInBounds_ne (fun e => ht e.symm), Array.getD_eq_getD_getElem?]
          have hputd : (a.put (some d) v).tmps.getD d undef = v := by
            simp only [Act.put]
            rw [Array.getD_eq_getD_getElem?, Array.getElem?_setIfInBounds_self_of_lt (by omega)]; rfl
          have hFv : F d = v := hFd i o d v him ho' hv hd
          refine ih _ _ w' had (by simp [Act.put, hsz]) (by simp [hls]) hi' (fun j hj => by rw [Z9 (by omega)]; exact hlow j hj) (fun j hj q hq => ?_) (fun t ht => ?_) (fun j oj t hj hlj hoj hdj => ?_) ?_
          · have hq' : listed.getD q false = true := by
              rcases Nat.decEq j i with hne | he
              · rw [Z9 hne] at hj
                exact hcl j hj q hq
              · subst he
                exact hprei q hq
            by_cases hqi : q = i
            · rw [hqi]; exact Qr (by omega)
            · rw [Z9 hqi]; exact hq'
          · have htd : t ≠ d := fun e => ht i o him (Qr (by omega)) ho' (by rw [hd, e])
            rw [hput t htd]
            exact hout t fun j oj hj hlj hoj => ht j oj hj (by
              by_cases hji : j = i
              · rw [hji]; exact Qr (by omega)
              · rw [Z9 hji]; exact hlj) hoj
          · rcases Nat.decEq t d with htd | htd
            · rw [hput t htd]
              rcases Nat.decEq j i with hne | he
              · rw [Z9 hne] at hlj
                exact hin j oj t hj hlj hoj hdj
              · subst he
                rw [ho'] at hoj
                obtain rfl := Option.some.inj hoj
                rw [hd] at hdj
                exact absurd (Option.some.inj hdj).symm htd
            · subst htd
              rw [hputd, hFv]
          · have := Ga (listed := listed) (i := i) (by omega) hun' ops.length hil
            omega
theorem Ze {id : Nat} {w : World} {Q : Exit → Fr → World → Prop} (m : Nat) (vals : List (Nat × Value)) (Inv : World → Prop) (hmx : P.follows .mixedOrders = true) (hck : drawOk n m ops (befores ops) = true) (h0 : Inv w.drew)
    (hpre : YlL P n ops.toArray Inv (ups f vals) (ops.take m) vals) (htail : ∀ w', Inv w' → WpO P n ops.toArray (Q .normal) (ops.drop m) (ups f vals) w') : Wpf P n Q (.region id ops.toArray true) f w := fun a ha => by
  obtain ⟨hm, _, hone⟩ := Ky hck
  obtain ⟨hlen, hget⟩ := Uc _ _ hpre
  obtain ⟨aF, haF⟩ := W4 vals a f ha fun p hp => by
    obtain ⟨j, hj⟩ := List.getElem?_of_mem hp
    have hjm : j < m := by
      have := (List.getElem?_eq_some_iff.1 hj).1
      rw [← hlen] at this
      simp at this
      omega
    obtain ⟨oj, hoj⟩ : ∃ oj, ops[j]? = some oj := ⟨_, List.getElem?_eq_getElem (by omega)⟩
    obtain ⟨d, v, hv, hd, _⟩ := hget j oj (by rw [List.getElem?_take, if_pos hjm]; exact hoj)
    rw [hj] at hv
    have := Option.some.inj hv
    subst this
    have h1 := hone j oj hoj
    unfold drawOne at h1
    simp only [Bool.and_eq_true, if_pos hjm, hd] at h1
    simpa using h1.2.1.2
  refine wp_region_any hmx ?_
  have hrep : ∀ j, (Array.replicate ops.toArray.size false).getD j false = false := fun j => by
    rw [Array.getD_eq_getD_getElem?]
    cases h : (Array.replicate ops.toArray.size false)[j]? with
    | none => rfl
    | some b => rw [Array.getElem?_replicate] at h; split at h <;> simp_all
  refine Ur (K := Q .normal) hck rfl haF hpre htail (fun a' w' f' hf hK => ⟨f', hf, hK⟩) _ _ a _ ha.defers ha.size (by simp) h0 (fun j _ => hrep j) (fun j hj => by rw [hrep j] at hj; cases hj) (fun t _ => ha.at_ t) (fun j o t _ hj => by rw [hrep j] at hj; cases hj) ?_
  rw [show ops.toArray.size = ops.length by simp, Vo]
  exact Nat.le_refl _
theorem Yl (w : World) {r : Option Nat} : w.grownBy w.drew r := ⟨rfl, rfl, rfl, Nat.le_refl _, fun _ _ _ => rfl⟩
theorem Lw {c : Code} {w : World} {Q : Exit → Fr → World → Prop} (M : Fr → World → Prop) (h : Wpf P n (thn M Q) c f w) (hM : ∀ f w, M f w → Q .normal f w) : Wpf P n Q c f w :=
  h.mono fun e f w hq => by cases e <;> first | exact hM _ _ hq | exact hq
end
section
variable {P : Program} {n : Nat} {ops : List Oper} {f : Fr}
theorem Bd {i : Nat} {o : Oper} {w : World} {a : Act} {F : Fr} {K1 : Fr → World → Prop} (ho : ops[i]? = some o) (hF : FEq n a F) (h : WpO P n ops.toArray K1 [o] F w)
    {K : Act → World → Prop} {Q : Exit → Act → World → Prop} (hK : ∀ a' w' f', FEq n a' f' → K1 f' w' → K a' w') : wpOp P ops.toArray Q i K a w := by
  have h1 := h a hF (fun e a' w' => e = .normal ∧ ∃ f', FEq n a' f' ∧ K1 f' w') (fun a' w' f' hf hk => ⟨rfl, f', hf, hk⟩)
  have hout : ¬ LetsOut (fun (e : Exit) (a' : Act) (w' : World) => e = .normal ∧ ∃ f', FEq n a' f' ∧ K1 f' w') := by
    rintro ⟨_, _, he, _⟩
    cases he
  have hK' : ∀ a' w', (∃ f', FEq n a' f' ∧ K1 f' w') → K a' w' := fun a' w' ⟨f', hf, hk⟩ => hK a' w' f' hf hk
  have ho' : ops.toArray[i]? = some o := by simpa using ho
  unfold wpOp
  rw [ho']
  simp only
  unfold wpList at h1
  split
  · rename_i hwt
    rw [if_pos hwt] at h1
    rcases h1 with h1 | ⟨_, h1⟩
    · left
      unfold Oper.wp at h1 ⊢
      generalize (execOp a.eval o).run P w = r at h1 ⊢
      cases r with
      | ok x w' =>
        cases x <;> simp only [Oper.upon, wpList] at h1 ⊢
        case value u => exact hK' _ _ h1.2
        case skip => exact hK' _ _ h1.2
        case defer dd => exact hK' _ _ h1.2
        case enter k args =>
          refine h1.mono fun e w'' hh => ?_
          cases e with
          | returned u => exact hK' _ _ hh.2
          | panicked c => exact absurd hh.1 (by simp)
          | outgrown => exact (hout hh).elim
        case row r args => exact h1.mono fun u w'' hh => hK' _ _ hh.2
      | halt x w' =>
        cases x <;> simp only [Oper.upon] at h1 ⊢
        case panic u => exact absurd h1.1 (by simp)
    · exact (hout h1).elim
  · rename_i hwt
    rw [if_neg hwt] at h1
    simp only [wpList] at h1
    exact hK' _ _ h1.2
theorem J2 {m : Nat} {bs : List (List Nat)} {i : Nat} {o : Oper} (h : tailOne m bs i o = true) (listed : Array Bool) (hall : ∀ e ∈ o.after, Region.binds .any e = true → listed.getD e.on false = true)
    (hcl : ∀ j, listed.getD j false = true → ∀ q ∈ bs.getD j [], listed.getD q false = true) : ∀ q ∈ bs.getD i [], listed.getD q false = true := by
  intro q hq
  unfold tailOne at h
  simp only [Bool.and_eq_true] at h
  have := List.all_eq_true.1 h.1.2 q hq
  obtain ⟨e, he, hb⟩ := List.any_eq_true.1 this
  simp only [Bool.and_eq_true, Bool.or_eq_true, beq_iff_eq] at hb
  obtain ⟨hbi, hb | hb⟩ := hb
  · rw [← hb]; exact hall e (by simpa using he) hbi
  · exact hcl e.on (hall e (by simpa using he) hbi) q (by simpa using hb)
theorem Pi {listed : Array Bool} {i : Nat} (h : i < listed.size) : (fun j => (listed.setIfInBounds i true).getD j false) = fun j => j == i || listed.getD j false := by
  funext j
  by_cases hj : j = i
  · subst hj; rw [Qr h]; simp
  · rw [Z9 hj]; simp [hj]
theorem Gw {m : Nat} {bs : List (List Nat)} {I : (Nat → Bool) → Fr → World → Prop} {K : Fr → World → Prop} {Q : Exit → Act → World → Prop} (hm : m ≤ ops.length) (hone : ∀ i o, ops[i]? = some o → tailOne m bs i o = true)
    (hpre : ∀ i o, i < m → ops[i]? = some o → ∀ S F w, S i = false → (∀ j ∈ bs.getD i [], S j = true) → (∀ j, S j = true → ∀ q ∈ bs.getD j [], S q = true) → I S F w →
      WpO P n ops.toArray (fun F' w' => I (fun j => j == i || S j) F' w') [o] F w)
    (htail : ∀ S F w, (∀ j, j < m → S j = true) → I S F w → WpO P n ops.toArray K (ops.drop m) F w) (hQ : ∀ a' w' f', FEq n a' f' → K f' w' → Q .normal a' w') :
    ∀ (fuel : Nat) (listed : Array Bool) (a : Act) (F : Fr) (w : World), FEq n a F → listed.size = ops.length → I (fun j => listed.getD j false) F w → (∀ j, m ≤ j → listed.getD j false = false) →
      (∀ j, listed.getD j false = true → ∀ q ∈ bs.getD j [], listed.getD q false = true) → cnt listed ops.length ≤ fuel → wpAny P .any ops.toArray Q fuel listed a w := by
  intro fuel
  induction fuel with
  | zero =>
    intro listed a F w ha hls hi hlow hcl hcnt
    have hz := U0 _ (Nat.le_zero.1 hcnt)
    refine Kh rfl hone (fun l i o ho hall hc => J2 (hone i o ho) l hall hc) 0 m listed a w (Nat.le_refl _) hm hls (fun j hj => hz j (by omega)) (fun j hj _ => hlow j hj) hcl ?_ ?_
    · have := U4 (listed := listed) (m := m) ops.length fun j h1 _ => hlow j h1
      omega
    · exact htail _ F w (fun j hj => hz j (by omega)) hi a ha Q hQ
  | succ fuel ih =>
    intro listed a F w ha hls hi hlow hcl hcnt
    by_cases hall : ∀ j, j < m → listed.getD j false = true
    · refine Kh rfl hone (fun l i o ho hall hc => J2 (hone i o ho) l hall hc) (fuel + 1) m listed a w (Nat.le_refl _) hm hls hall (fun j hj _ => hlow j hj) hcl ?_ ?_
      · have := U4 (listed := listed) (m := m) ops.length fun j h1 _ => hlow j h1
        omega
      · exact htail _ F w hall hi a ha Q hQ
    · obtain ⟨j0, hj0, hun0, hbelow⟩ := Pz m hall
      refine ⟨fun hnil => ?_, fun i hir => ?_⟩
      · exfalso
        obtain ⟨o, ho⟩ : ∃ o, ops[j0]? = some o := ⟨_, List.getElem?_eq_getElem (by omega)⟩
        have hkr : j0 ∈ Region.ready .any ops.toArray listed := by
          refine mem_ready.2 ⟨?_, o, by simpa using ho, fun e he hb => ?_⟩
          · rw [Array.getD_eq_getD_getElem?, Array.getElem?_eq_getElem (by omega)] at hun0 ⊢
            simpa using hun0
          · have h1 := hone j0 o ho
            unfold tailOne at h1
            simp only [Bool.and_eq_true] at h1
            have := List.all_eq_true.1 h1.1.1 e (by simpa using he)
            simp only [hb, Bool.not_true, Bool.false_or, decide_eq_true_eq] at this
            exact hbelow _ this
        rw [hnil] at hkr
        cases hkr
      · obtain ⟨hun, o, ho, hafter⟩ := mem_ready.1 hir
        have ho' : ops[i]? = some o := by simpa using ho
        have hil : i < ops.length := (List.getElem?_eq_some_iff.1 ho').1
        have hun' : listed.getD i false = false := by
          rw [Array.getD_eq_getD_getElem?, Array.getElem?_eq_getElem (by omega)] at hun ⊢
          simpa using hun
        have hprei := J2 (hone i o ho') listed (fun e he hb => hafter e he hb) hcl
        have him : i < m := by
          rcases Nat.lt_or_ge i m with h' | h'
          · exact h'
          · exfalso
            have h1 := hone i o ho'
            unfold tailOne at h1
            simp only [Bool.and_eq_true] at h1
            have h3 := h1.2
            rw [show decide (i < m) = false by simp; omega, Bool.false_or] at h3
            have := List.all_eq_true.1 h3 j0 (by simp; omega)
            have := hprei j0 (by simpa using this)
            rw [hun0] at this
            cases this
        refine Bd ho' ha (hpre i o him ho' _ F w hun' hprei hcl hi) fun a' w' f' hf hI => ?_
        refine ih _ _ f' w' hf (by simp [hls]) ?_ (fun j hj => by rw [Z9 (by omega)]; exact hlow j hj) (fun j hj q hq => ?_) ?_
        · rw [Pi (by omega)]; exact hI
        · have hq' : listed.getD q false = true := by
            rcases Nat.decEq j i with hne | he
            · rw [Z9 hne] at hj
              exact hcl j hj q hq
            · subst he
              exact hprei q hq
          by_cases hqi : q = i
          · rw [hqi]; exact Qr (by omega)
          · rw [Z9 hqi]; exact hq'
        · have := Ga (listed := listed) (i := i) (by omega) hun' ops.length hil
          omega
def PreL (P : Program) (n : Nat) (ops : Array Oper) (bs : List (List Nat)) (I : (Nat → Bool) → Fr → World → Prop) : Nat → List Oper → Prop
  | _, [] => True
  | i, o :: l => (∀ S F w, S i = false → (∀ j ∈ bs.getD i [], S j = true) → (∀ j, S j = true → ∀ q ∈ bs.getD j [], S q = true) → I S F w → WpO P n ops (fun F' w' => I (fun j => j == i || S j) F' w') [o] F w) ∧ PreL P n ops bs I (i + 1) l
theorem Q5 {ops : Array Oper} {bs : List (List Nat)} {I : (Nat → Bool) → Fr → World → Prop} {i : Nat} : PreL P n ops bs I i [] := trivial
theorem X6 {ops : Array Oper} {bs : List (List Nat)} {I : (Nat → Bool) → Fr → World → Prop} {i : Nat} {o : Oper} {l : List Oper}
    (h : ∀ S F w, S i = false → (∀ j ∈ bs.getD i [], S j = true) → (∀ j, S j = true → ∀ q ∈ bs.getD j [], S q = true) → I S F w → WpO P n ops (fun F' w' => I (fun j => j == i || S j) F' w') [o] F w)
    (t : PreL P n ops bs I (i + 1) l) : PreL P n ops bs I i (o :: l) := ⟨h, t⟩
theorem Hj {opsA : Array Oper} {bs : List (List Nat)} {I : (Nat → Bool) → Fr → World → Prop} : ∀ (l : List Oper) (k i : Nat) (o : Oper), PreL P n opsA bs I k l → l[i]? = some o →
    ∀ S F w, S (k + i) = false → (∀ j ∈ bs.getD (k + i) [], S j = true) → (∀ j, S j = true → ∀ q ∈ bs.getD j [], S q = true) → I S F w → WpO P n opsA (fun F' w' => I (fun j => j == k + i || S j) F' w') [o] F w
  | [], _, _, _, _, ho => by simp at ho
  | p :: l, k, 0, o, h, ho => by
    obtain rfl : p = o := by simpa using ho
    exact h.1
  | p :: l, k, i + 1, o, h, ho => by
    have := Hj l (k + 1) i o h.2 (by simpa using ho)
    rwa [show k + 1 + i = k + (i + 1) by omega] at this
theorem Qs {id : Nat} {w : World} {Q : Exit → Fr → World → Prop} (m : Nat) (bs : List (List Nat)) (I : (Nat → Bool) → Fr → World → Prop) (hmx : P.follows .mixedOrders = true) (hck : drawOkI m ops bs = true) (h0 : I (fun _ => false) f w.drew)
    (hpre : PreL P n ops.toArray bs I 0 (ops.take m)) (htail : ∀ S F w, (∀ j, j < m → S j = true) → I S F w → WpO P n ops.toArray (Q .normal) (ops.drop m) F w) : Wpf P n Q (.region id ops.toArray true) f w := fun a ha => by
  unfold drawOkI at hck
  simp only [Bool.and_eq_true, decide_eq_true_eq] at hck
  obtain ⟨hm, hck⟩ := hck
  have hone : ∀ i o, ops[i]? = some o → tailOne m bs i o = true := fun i o ho => by
    have := List.all_eq_true.1 hck i (by simpa using (List.getElem?_eq_some_iff.1 ho).1)
    rw [ho] at this
    exact this
  refine wp_region_any hmx ?_
  have hrep : ∀ j, (Array.replicate ops.toArray.size false).getD j false = false := fun j => by
    rw [Array.getD_eq_getD_getElem?]
    cases h : (Array.replicate ops.toArray.size false)[j]? with
    | none => rfl
    | some b => rw [Array.getElem?_replicate] at h; split at h <;> simp_all
  refine Gw (K := Q .normal) hm hone (fun i o hi ho S F w h1 h2 h3 h4 => ?_) htail (fun a' w' f' hf hK => ⟨f', hf, hK⟩) _ _ a f _ ha (by simp) (by simp only [hrep]; exact h0) (fun j _ => hrep j) (fun j hj => by rw [hrep j] at hj; cases hj) ?_
  · have := Hj _ 0 i o hpre (by rw [List.getElem?_take, if_pos hi]; exact ho) S F w (by simpa using h1) (by simpa using h2) h3 h4
    simpa using this
  · rw [show ops.toArray.size = ops.length by simp, Vo]
    exact Nat.le_refl _
theorem X5 {C : Prop} (h : false = true) : C := by cases h
theorem Qh {C : Prop} (h : true = false) : C := by cases h
theorem Xx {S : (Nat → Bool)} {bs : List (List Nat)} {C : Prop} {i : Nat} (j : Nat) (hi : S i = false) (hcl : ∀ j, S j = true → ∀ q ∈ bs.getD j [], S q = true) (hq : (bs.getD j []).contains i = true) (h : S j = true) : C := by
  have := hcl j h i (by simpa using hq)
  rw [hi] at this
  cases this
theorem Xo {S : (Nat → Bool)} {bs : List (List Nat)} {i : Nat} (j : Nat) (h : ∀ j ∈ bs.getD i [], S j = true) (hq : (bs.getD i []).contains j = true) : S j = true := h j (by simpa using hq)
end
end Go.Dw
end
section
namespace Go.Dw
set_option linter.unusedSimpArgs false
set_option linter.unusedVariables false
open Go.RowKit
def Wide {α : Type} (g : α → List Value) (sz : Nat) : Prop := ∀ a, (g a).length = sz
theorem Zw : Wide Rt.cells 5 := fun _ => rfl
theorem Ys : Wide icell 1 := fun _ => rfl
theorem Zy : Wide MTh.cells 8 := fun _ => rfl
theorem Sj : ∀ q : Rt, ∀ u ∈ q.cells, u.oneCell' = true := fun q u hu => by simp [Rt.cells] at hu; rcases hu with rfl | rfl | rfl | rfl | rfl <;> rfl
theorem Ut : ∀ q : Int, ∀ u ∈ icell q, u.oneCell' = true := fun q u hu => by simp [icell] at hu; subst hu; rfl
theorem Rg : ∀ q : MTh, ∀ u ∈ q.cells, u.oneCell' = true := fun q u hu => by simp [MTh.cells] at hu; rcases hu with rfl | rfl | rfl | rfl | rfl | rfl | rfl | rfl <;> rfl
section
variable {α : Type} {g : α → List Value} {sz : Nat}
theorem Qe (hg : Wide g sz) : ∀ ys : List α, (ys.flatMap g).length = ys.length * sz
  | [] => by simp
  | y :: ys => by
    simp only [List.flatMap_cons, List.length_append, Qe hg ys, List.length_cons, hg y, Nat.add_mul]
    omega
theorem K4 (hg : Wide g sz) : ∀ (ys : List α) (k : Nat), (ys.flatMap g).drop (k * sz) = (ys.drop k).flatMap g
  | ys, 0 => by simp
  | [], k + 1 => by simp
  | y :: ys, k + 1 => by
    rw [List.flatMap_cons, List.drop_append, List.drop_eq_nil_of_le (by rw [hg y, Nat.add_mul]; omega), hg y, List.nil_append, show (k + 1) * sz - sz = k * sz by rw [Nat.add_mul]; omega, K4 hg ys k]
    rfl
theorem Wm (hg : Wide g sz) : ∀ (ys : List α) (k : Nat), (ys.flatMap g).take (k * sz) = (ys.take k).flatMap g
  | ys, 0 => by simp
  | [], k + 1 => by simp
  | y :: ys, k + 1 => by
    rw [List.flatMap_cons, List.take_append, List.take_of_length_le (by rw [hg y, Nat.add_mul]; omega), hg y, show (k + 1) * sz - sz = k * sz by rw [Nat.add_mul]; omega, Wm hg ys k]
    rfl
theorem Kl {ys : List α} {k : Nat} {x : α} (hk : ys[k]? = some x) : ys.drop k = x :: ys.drop (k + 1) := by
  obtain ⟨hl, rfl⟩ := List.getElem?_eq_some_iff.1 hk
  exact List.drop_eq_getElem_cons hl
theorem Kv (hg : Wide g sz) {ys : List α} {k : Nat} {x : α} (hk : ys[k]? = some x) {j : Nat} {v : Value} (hj : (g x)[j]? = some v) : (ys.flatMap g)[k * sz + j]? = some v := by
  have h := congrArg (fun l : List Value => l[j]?) (K4 hg ys k)
  simp only [List.getElem?_drop] at h
  rw [h, Kl hk, List.flatMap_cons, List.getElem?_append_left (List.getElem?_eq_some_iff.1 hj).1, hj]
theorem Vt (hg : Wide g sz) {ys : List α} {k : Nat} (hk : k < ys.length) (x : α) :
    ((ys.flatMap g).toArray.toList.take (k * sz) ++ g x ++ (ys.flatMap g).toArray.toList.drop (k * sz + sz)).toArray = ((ys.set k x).flatMap g).toArray := by
  have e : k * sz + sz = (k + 1) * sz := by rw [Nat.add_mul]; omega
  rw [e, Wm hg, K4 hg, List.set_eq_take_append_cons_drop, if_pos hk]
  simp [List.flatMap_append]
theorem Se (x : List Value) (l : List Value) (j : Nat) (v : Value) (hj : j < x.length) : (x ++ l).set j v = x.set j v ++ l := by
  rw [List.set_append_left _ _ hj]
theorem Wi (hg : Wide g sz) {ys : List α} {k : Nat} {x : α} (hk : ys[k]? = some x) (x' : α) {j : Nat} {v : Value} (hj : j < sz) (hv : (g x).set j v = g x') :
    (ys.flatMap g).toArray.setIfInBounds (k * sz + j) v = ((ys.set k x').flatMap g).toArray := by
  have hl := (List.getElem?_eq_some_iff.1 hk).1
  have e : (ys.flatMap g) = (ys.take k).flatMap g ++ (g x ++ (ys.drop (k + 1)).flatMap g) := by
    conv => lhs; rw [← List.take_append_drop k ys, List.flatMap_append, Kl hk, List.flatMap_cons]
  have hlen : ((ys.take k).flatMap g).length = k * sz := by rw [Qe hg, List.length_take, Nat.min_eq_left (Nat.le_of_lt hl)]
  rw [List.setIfInBounds_toArray]
  refine congrArg List.toArray ?_
  rw [e, List.set_append_right _ _ (by omega), hlen, show k * sz + j - k * sz = j by omega, Se _ _ _ _ (by rw [hg]; exact hj), hv, List.set_eq_take_append_cons_drop, if_pos hl, List.flatMap_append, List.flatMap_cons]
theorem Ww (hg : Wide g sz) {ys : List α} {k : Nat} (hk : k < ys.length) : k * sz + sz ≤ (ys.flatMap g).toArray.size := by
  rw [List.size_toArray, Qe hg]
  have : (k + 1) * sz ≤ ys.length * sz := Nat.mul_le_mul_right _ hk
  rwa [Nat.add_mul, Nat.one_mul] at this
theorem Sm (hg : Wide g sz) {ys : List α} {k : Nat} (hk : k < ys.length) {j : Nat} (hj : j < sz) : k * sz + j < (ys.flatMap g).toArray.size := by
  have := Ww hg hk
  omega
theorem G8 (hg : Wide g sz) {L : List α} {k : Nat} {x : α} (hx : L[k]? = some x) {j : Nat} (hj : j < sz) : k * sz + j < (L.flatMap g).toArray.size := Sm hg (List.getElem?_eq_some_iff.1 hx).1 hj
theorem Y9 (hg : Wide g sz) {ys : List α} {w : World} {B : Nat} {T : TypeId} (h : Blk w B T (ys.flatMap g).toArray) {k : Nat} {x : α} (hk : ys[k]? = some x) : w.rangeAt B (k * sz) (g x) :=
  h.range fun j v hj => by
    rw [List.getElem?_toArray]
    exact Kv hg hk hj
theorem Qf (hg : Wide g sz) {ys : List α} {w : World} {B : Nat} {T : TypeId} (h : Blk w B T (ys.flatMap g).toArray) : SlAt w (some ⟨B, 0, none⟩) sz (ys.map g) := fun k x hk => by
  rw [List.getElem?_map] at hk
  cases hy : ys[k]? with
  | none => rw [hy] at hk; simp at hk
  | some y =>
    rw [hy] at hk
    obtain rfl : g y = x := by simpa using hk
    exact ⟨B, 0, rfl, by rw [Nat.zero_add]; exact Y9 hg h hy⟩
def fill (xs : List α) (z : α) (k : Nat) : List α := xs.take k ++ List.replicate (xs.length - k) z
theorem Wh (xs : List α) (z : α) : fill xs z 0 = List.replicate xs.length z := by simp [fill]
theorem Vj {xs : List α} {z : α} {k : Nat} (hk : k ≤ xs.length) : (fill xs z k).length = xs.length := by
  simp [fill]
  omega
theorem Gx {xs : List α} {z : α} {k : Nat} {x : α} (hx : xs[k]? = some x) : (fill xs z k).set k x = fill xs z (k + 1) := by
  have hl := (List.getElem?_eq_some_iff.1 hx).1
  unfold fill
  rw [List.set_append_right _ _ (by simp; omega), List.length_take, Nat.min_eq_left (by omega), Nat.sub_self, List.take_add_one, hx]
  rw [show xs.length - k = (xs.length - (k + 1)) + 1 by omega, List.replicate_succ]
  simp
theorem Gq {xs : List α} {z : α} {k : Nat} (hk : xs.length ≤ k) : fill xs z k = xs := by
  unfold fill
  rw [List.take_of_length_le hk, Nat.sub_eq_zero_of_le hk]
  simp
theorem L4 {z : α} (hg : Wide g sz) (h0 : 0 < sz) : ∀ c : Nat, madeCells (g z).toArray (c * sz) = ((List.replicate c z).flatMap g).toArray := fun c => by
  apply Array.ext'
  refine List.ext_getElem? fun i => ?_
  have hl : ((List.replicate c z).flatMap g).length = c * sz := by rw [Qe hg, List.length_replicate]
  by_cases hi : i < c * sz
  · have hd : i = (i / sz) * sz + i % sz := by rw [Nat.mul_comm]; exact (Nat.div_add_mod i sz).symm
    have hm : i % sz < sz := Nat.mod_lt _ h0
    have hq : i / sz < c := (Nat.div_lt_iff_lt_mul h0).2 hi
    have h1 : (List.replicate c z)[i / sz]? = some z := by simp [hq]
    have h2 : (g z)[i % sz]? = some ((g z)[i % sz]'(by rw [hg z]; exact hm)) := List.getElem?_eq_getElem (by rw [hg z]; exact hm)
    have h3 := Kv hg h1 h2
    rw [← hd] at h3
    simp only [List.toList_toArray]
    rw [h3]
    simp only [madeCells, Array.toList_map, Array.toList_range, List.getElem?_map, List.getElem?_range hi, Option.map_some, List.size_toArray, hg z]
    rw [getElem!_def, List.getElem?_toArray, h2]
  · rw [List.getElem?_eq_none (by simp [madeCells]; omega), List.getElem?_eq_none (by simp only [List.toList_toArray]; omega)]
end
def mkTy (P : Program) (t : TypeId) : Option (TypeId × Nat × Nat × Option Value) :=
  match P.underlying t with
  | some (.slice e) => (P.info? e).map fun i => (e, i.size, i.bytes, i.zero)
  | _ => none
section
variable {P : Program} {n : Nat} {ops : Array Oper} {K : Fr → World → Prop} {l : List Oper} {f : Fr} {w : World} {ty : TypeId} {pos : String} {aft : Array Edge} {d : Nat}
theorem Kz {α : Type} {g : α → List Value} {z : α} {t e sz bytes c : Nat} {v : Value} {x y : Operand} (ht : mkTy P t = some (e, sz, bytes, some v)) (hv : v.cells = (g z).toArray) (hg : Wide g sz) (h0 : 0 < sz)
    (hx : ev f x = .int .i64 (c : Int)) (hy : ev f y = .int .i64 (c : Int)) (hb : bytes * c ≤ 281474976710656) (h63 : c ≤ 9223372036854775807) (hd : Nat.blt d n = true)
    (h : ∀ B w', NewB w w' B e ((List.replicate c z).flatMap g).toArray → WpO P n ops K l (up f d (.slice (some ⟨B, 0, none⟩) c c)) w') : WpO P n ops K (⟨some d, .makeSlice t x y, ty, pos, aft, none⟩ :: l) f w := by
  unfold mkTy at ht
  split at ht
  · rename_i el hu
    cases hq : P.info? el with
    | none => rw [hq] at ht; cases ht
    | some i =>
      rw [hq] at ht
      simp only [Option.map_some, Option.some.injEq, Prod.mk.injEq] at ht
      obtain ⟨rfl, rfl, rfl, hz⟩ := ht
      have hr := run_make (P := P) w t el i v hu hq hz .i64 .i64 (c : Int) (c : Int) (by omega) (Int.le_refl _) (by omega) (by omega)
      rw [hv, Int.toNat_natCast, L4 hg h0] at hr
      exact Zp rfl hd (by simp only [execOp, hx, hy, Sem.run_bind, hr, Result.andThen_ok]; rfl) (h _ _ (Ko w el _))
  · cases ht
end
def bcell (n : Int) : List Value := [.int .u8 n]
theorem Rx {x y : Int} (hx : 0 ≤ x) (hx2 : x < 4611686018427387904) (hy : 0 ≤ y) (hy2 : y < 4611686018427387904) : 0 ≤ bits .xor .i64 x y ∧ bits .xor .i64 x y < 4611686018427387904 := by
  obtain ⟨m, rfl⟩ := Int.eq_ofNat_of_zero_le hx
  obtain ⟨k, rfl⟩ := Int.eq_ofNat_of_zero_le hy
  have h1 : m ^^^ k < 2 ^ 62 := Nat.xor_lt_two_pow (by omega) (by omega)
  have h2 : (BitVec.ofInt 64 (m : Int) ^^^ BitVec.ofInt 64 (k : Int)).toNat = m ^^^ k := by
    rw [BitVec.toNat_xor, BitVec.toNat_ofInt, BitVec.toNat_ofInt]
    congr 1 <;> omega
  have h3 : bits .xor .i64 (m : Int) (k : Int) = ((m ^^^ k : Nat) : Int) := by
    show IntKind.i64.wrap (((BitVec.ofInt 64 (m : Int) ^^^ BitVec.ofInt 64 (k : Int)).toNat : Nat) : Int) = _
    rw [h2, IntKind.wrap_i64]
    omega
  rw [h3]
  omega
def SlLt (lo : Nat) (w : World) (a : Option Addr) (sz : Nat) (xs : List (List Value)) : Prop := ∀ k x, xs[k]? = some x → ∃ b o, a = some ⟨b, o, none⟩ ∧ b < lo ∧ w.rangeAt b (o + k * sz) x
theorem SlLt.sl {lo : Nat} {w : World} {a : Option Addr} {sz : Nat} {xs : List (List Value)} (h : SlLt lo w a sz xs) : SlAt w a sz xs := fun k x hk => by
  obtain ⟨b, o, ha, _, hr⟩ := h k x hk
  exact ⟨b, o, ha, hr⟩
theorem SlLt.low0 {lo : Nat} {w w' : World} {a : Option Addr} {sz : Nat} {xs : List (List Value)} (h : SlLt lo w a sz xs) (hg : w.grownBy w' none) : SlLt lo w' a sz xs := fun k x hk => by
  obtain ⟨b, o, ha, hb, hx⟩ := h k x hk
  exact ⟨b, o, ha, hb, Z7 hx hg (by simp)⟩
theorem SlLt.low1 {lo : Nat} {w w' : World} {a : Option Addr} {sz : Nat} {xs : List (List Value)} (h : SlLt lo w a sz xs) {c : Nat} (hg : w.grownBy w' (some c)) (hc : lo ≤ c) : SlLt lo w' a sz xs := fun k x hk => by
  obtain ⟨b, o, ha, hb, hx⟩ := h k x hk
  exact ⟨b, o, ha, hb, Z7 hx hg (Xf (by omega))⟩
theorem SlLt.at {lo : Nat} {w : World} {a : Option Addr} {sz k : Nat} {xs : List (List Value)} {x : List Value} (h : SlLt lo w a sz xs) (hk : xs[k]? = some x) : ∃ b q o, a = some ⟨b, q, none⟩ ∧ q + k * sz = o ∧ b < lo ∧ w.rangeAt b o x := by
  obtain ⟨b, o, ha, hb, hr⟩ := h k x hk
  exact ⟨b, o, _, ha, rfl, hb, hr⟩
theorem SlLt.take {α : Type} {g : α → List Value} {lo : Nat} {w : World} {a : Option Addr} {sz : Nat} {xs : List α} (h : SlLt lo w a sz (xs.map g)) (m : Nat) : SlLt lo w a sz ((xs.take m).map g) := fun k x hk => by
  refine h k x ?_
  rw [List.getElem?_map, List.getElem?_take] at hk
  rw [List.getElem?_map]
  split at hk
  · exact hk
  · simp at hk
theorem SlAt.lt {α : Type} {g : α → List Value} {w : World} {a : Option Addr} {sz : Nat} {xs : List α} (hg : Wide g sz) (h0 : 0 < sz) (h : SlAt w a sz (xs.map g)) : SlLt w.heap.size w a sz (xs.map g) := fun k x hk => by
  obtain ⟨b, o, ha, hr⟩ := h k x hk
  refine ⟨b, o, ha, ?_, hr⟩
  rw [List.getElem?_map] at hk
  cases hy : xs[k]? with
  | none => rw [hy] at hk; simp at hk
  | some y =>
    rw [hy] at hk
    obtain rfl : g y = x := by simpa using hk
    obtain ⟨v, hv⟩ : ∃ v, (g y)[0]? = some v := ⟨_, List.getElem?_eq_getElem (by rw [hg y]; exact h0)⟩
    exact World.block_lt_of_cell? w _ (hr 0 v hv)
theorem Vc : Wide bcell 1 := fun _ => rfl
section
variable {P : Program} {n : Nat} {ops : Array Oper} {K : Fr → World → Prop} {l : List Oper} {f : Fr} {w : World} {ty : TypeId} {pos : String} {aft : Array Edge} {d : Nat}
theorem Sa {t : TypeId} {x y : Operand} {a : Option Addr} {m c h : Nat} {k : IntKind} {e sz : Nat} (ht : P.underlying t = some (.slice e)) (hs : (P.info? e).map (·.size) = some sz) (hx : ev f x = .slice a m c) (hy : ev f y = .int k (h : Int)) (hc : h ≤ c) (hd : Nat.blt d n = true)
    (hk : WpO P n ops K l (up f d (.slice a h c)) w) : WpO P n ops K (⟨some d, .slice t x none (some y) none, ty, pos, aft, none⟩ :: l) f w :=
  Zp rfl hd (by
    have h1 : (Instr.sliceBound (.int k (h : Int)) c .sliceAcap).run P w = .ok h w := by
      have : (0 : Int) ≤ (h : Int) ∧ (h : Int) ≤ (c : Int) := by omega
      simp [Instr.sliceBound, asIntOf, this]
    have h2 : (Instr.sliceBounds true m c none (some (.int k (h : Int))) none).run P w = .ok (0, h, c) w := by
      simp [Instr.sliceBounds, h1]
    cases hq : P.info? e with
    | none => rw [hq] at hs; cases hs
    | some i =>
      have hz : (sizeOf e).run P w = .ok i.size w := by simp [sizeOf, typeInfo, hq]
      have hv : (if c = 0 then a else a.map (·.add 0)) = a := by
        split
        · rfl
        · cases a with
          | none => rfl
          | some a => simp [Addr.add]
      have h3 : (Instr.slice t (.slice a m c) none (some (.int k (h : Int))) none).run P w = .ok (.slice a h c) w := by
        simp [Instr.slice, run_underlying ht, h2, hz, hv]
      have h4 : (Instr.sliceAt t (.slice a m c) none (some (.int k (h : Int))) none).run P w = .ok (.slice a h c) w := by
        simp [Instr.sliceAt, run_underlying ht, h3]
      simp only [execOp, hx, hy, Option.map_none, Option.map_some, Sem.run_bind, h4, Result.andThen_ok]
      rfl) hk
theorem X7 {t len : Nat} {parts : Array (Nat × Operand)} {ps : List (Nat × Value)} {e : TypeId} {cs : Array Value} (hp : parts.toList.map (fun p => (p.1, ev f p.2)) = ps)
    (hb : ∀ w, (Instr.buildSlice t len ps.toArray).run P w = .ok (.slice (some ⟨w.heap.size, 0, none⟩) len len) (w.alloc (.cells cs e))) (hd : Nat.blt d n = true)
    (h : ∀ B w', NewB w w' B e cs → WpO P n ops K l (up f d (.slice (some ⟨B, 0, none⟩) len len)) w') : WpO P n ops K (⟨some d, .buildSlice t len parts, ty, pos, aft, none⟩ :: l) f w :=
  Zp rfl hd (by
    have e : (parts.map fun p => (p.1, ev f p.2)) = ps.toArray := by rw [← hp]; apply Array.ext'; simp
    show ((do pure (Next.value (← Instr.buildSlice t len (parts.map fun p => (p.1, ev f p.2)))) : Sem Next)).run P w = _
    rw [e, Sem.run_bind, hb]
    rfl) (h _ _ (Ko w e cs))
end
theorem Xq {a b : World} {B C : Nat} {T : TypeId} {cs : Array Value} (h : NewB a b B T cs) (hk : C < a.heap.size) : C < B := by rw [h.eq]; exact hk
def Own (w : World) (B : Nat) (T : TypeId) (sz cap n : Nat) (vs : List Value) : Prop := w.ownsRow 0 T sz (.slice (some ⟨B, 0, none⟩) n cap) n vs
section
variable {w w' : World} {B : Nat} {T : TypeId} {sz cap n : Nat} {vs : List Value}
theorem Own.lt (h : Own w B T sz cap n vs) : B < w.heap.size := (World.ownsRow.lt h B rfl).2
theorem Own.grown (h : Own w B T sz cap n vs) {r : Option Nat} (hg : w.grownBy w' r) (hne : some B ≠ r) : Own w' B T sz cap n vs := World.ownsRow.kept h hg (Or.inr hne)
theorem Own.grown0 (h : Own w B T sz cap n vs) (hg : w.grownBy w' none) : Own w' B T sz cap n vs := h.grown hg (by simp)
theorem Own.sl {α : Type} {g : α → List Value} (hg : Wide g sz) {ys : List α} (h : Own w B T sz cap n (ys.flatMap g)) : SlAt w (some ⟨B, 0, none⟩) sz (ys.map g) := fun k x hk => by
  rw [List.getElem?_map] at hk
  cases hy : ys[k]? with
  | none => rw [hy] at hk; simp at hk
  | some y =>
    rw [hy] at hk
    obtain rfl : g y = x := by simpa using hk
    refine ⟨B, 0, rfl, fun j v hj => ?_⟩
    have := World.ownsRow.cells h rfl (k * sz + j) v (Kv hg hy hj)
    have e : (⟨B, 0 + k * sz + j, none⟩ : Addr) = (⟨B, 0, none⟩ : Addr).add (k * sz + j) := by
      simp only [Addr.add]
      split
      · rename_i he; rw [show 0 + k * sz + j = 0 by omega]
      · rw [Nat.add_assoc]
    rw [e]
    exact this
theorem Own.range {α : Type} {g : α → List Value} (hg : Wide g sz) {ys : List α} (h : Own w B T sz cap n (ys.flatMap g)) {k : Nat} {x : α} (hk : ys[k]? = some x) : w.rangeAt B (k * sz) (g x) := by
  obtain ⟨b, o, ha, hr⟩ := Own.sl hg h k _ (Yn hk)
  simp only [Option.some.injEq, Addr.mk.injEq] at ha
  obtain ⟨rfl, rfl, _⟩ := ha
  rwa [Nat.zero_add] at hr
theorem Own.of {cs : Array Value} (h : Blk w B T cs) (hs : cs.size = n * sz) (hm : n ≤ 9223372036854775807) : Own w B T sz n n cs.toList := by
  refine ⟨by simpa using hs, Or.inr ⟨B, n, cs, rfl, Nat.zero_le _, h, Nat.le_refl _, ?_, hs, ?_⟩⟩
  · have : maxLen = 9223372036854775807 := by decide
    omega
  · rw [← hs, ← Array.length_toList, List.take_length]
theorem Own.rows {α : Type} {g : α → List Value} (hg : Wide g sz) {ys : List α} (h : Blk w B T (ys.flatMap g).toArray) (hm : ys.length ≤ 9223372036854775807) : Own w B T sz ys.length ys.length (ys.flatMap g) := by
  have := Own.of (n := ys.length) (sz := sz) h (by rw [List.size_toArray, Qe hg]) hm
  simpa using this
end
theorem So {α : Type} {g : α → List Value} {sz : Nat} (hg : Wide g sz) (h0 : 0 < sz) {w : World} {a : Addr} {zs : List α} (hs : SlAt w (some a) sz (zs.map g)) : ∀ j u, (zs.flatMap g)[j]? = some u → w.cell? (a.add j) = some u := fun j u hj => by
  have hlt : j < zs.length * sz := by rw [← Qe hg zs]; exact (List.getElem?_eq_some_iff.1 hj).1
  obtain ⟨q, hq2⟩ := Zf ((Nat.div_lt_iff_lt_mul h0).2 hlt)
  obtain ⟨b, o, ha, hr⟩ := hs _ _ (Yn hq2)
  obtain rfl := Option.some.inj ha
  have hm2 : j % sz < sz := Nat.mod_lt _ h0
  have hd2 : (j / sz) * sz + j % sz = j := by rw [Nat.mul_comm]; exact Nat.div_add_mod j sz
  have h3 := Kv hg hq2 (j := j % sz) (List.getElem?_eq_getElem (by rw [hg q]; exact hm2))
  rw [hd2, hj] at h3
  have h4 := hr (j % sz) u (by rw [List.getElem?_eq_getElem (by rw [hg q]; exact hm2)]; exact h3.symm)
  have e3 : (⟨b, o, none⟩ : Addr).add j = ⟨b, o + (j / sz) * sz + j % sz, none⟩ := by
    simp only [Addr.add]
    split
    · rename_i he; rw [show o + (j / sz) * sz + j % sz = o by omega]
    · rw [show o + j = o + (j / sz) * sz + j % sz by omega]
  rw [e3]
  exact h4
section
variable {P : Program} {n : Nat} {ops : Array Oper} {K : Fr → World → Prop} {l : List Oper} {f : Fr} {w : World} {ty : TypeId} {pos : String} {aft : Array Edge} {d : Nat}
theorem Kq {α : Type} {g : α → List Value} {t e sz bytes cap c : Nat} {z : Value} {x y : Operand} {B : Nat} {ys zs : List α} {a : Addr} (ht : mkTy P t = some (e, sz, bytes, some z)) (hz : z.cells.size = sz) (hg : Wide g sz) (h0 : 0 < sz) (h1c : ∀ q : α, ∀ u ∈ g q, u.oneCell' = true)
    (hx : ev f x = .slice (some ⟨B, 0, none⟩) ys.length cap) (hy : ev f y = .slice (some a) zs.length c) (ho : Own w B e sz cap ys.length (ys.flatMap g)) (hs : SlAt w (some a) sz (zs.map g))
    (hm : ys.length + zs.length ≤ 1099511627776) (hb : bytes ≤ 128) (hd : Nat.blt d n = true)
    (h : ∀ B' cap' w', Own w' B' e sz cap' (ys ++ zs).length ((ys ++ zs).flatMap g) → w.grownBy w' (some B) → (B' = B ∨ B' = w.heap.size) → WpO P n ops K l (up f d (.slice (some ⟨B', 0, none⟩) (ys ++ zs).length cap')) w') :
    WpO P n ops K (⟨some d, .call ⟨.builtin .append, #[x, y], #[t, t]⟩, ty, pos, aft, none⟩ :: l) f w := by
  unfold mkTy at ht
  split at ht
  · rename_i el hu
    cases hq : P.info? el with
    | none => rw [hq] at ht; cases ht
    | some i =>
      rw [hq] at ht
      simp only [Option.map_some, Option.some.injEq, Prod.mk.injEq] at ht
      obtain ⟨rfl, rfl, rfl, hzz⟩ := ht
      have hmx : maxLen = 9223372036854775807 := by decide
      have hnews := So hg h0 hs
      obtain ⟨v', w', hr, ho', hgr, hnil, hob⟩ := run_append_own_at (P := P) w 0 t ty el i z i.size i.bytes hu hq hzz rfl rfl hz h0 _ _ _ ho a zs.length c (zs.flatMap g) (Qe hg zs) hnews
        (fun u hu => by obtain ⟨q, _, hq⟩ := List.mem_flatMap.1 hu; exact h1c q u hq) (by omega) (by
          have : (ys.length + zs.length) * i.bytes ≤ 1099511627776 * 128 := Nat.mul_le_mul hm hb
          omega) (Nat.zero_le _)
      have hv' : v' ≠ .slice none 0 0 := fun e => by
        have := (hnil.1 e).1
        cases this
      rcases ho'.2 with ⟨hn, _⟩ | ⟨B', cap', cur, rfl, hrest⟩
      · exact absurd hn hv'
      · have e1 : (ys ++ zs).length = ys.length + zs.length := List.length_append
        have e2 : (ys ++ zs).flatMap g = ys.flatMap g ++ zs.flatMap g := List.flatMap_append
        refine Zp rfl hd (v := .slice (some ⟨B', 0, none⟩) (ys ++ zs).length cap') (w' := w') (by simp [execOp, resolve, invoke, builtin, hx, hy, hr, e1]) (h B' cap' w' ?_ hgr ?_)
        · unfold Own; rw [e1, e2]; exact ho'
        · rcases hob with h' | h'
          · exact Or.inl (Option.some.inj h')
          · exact Or.inr (Option.some.inj h')
  · cases ht
end
def OwnN (lo : Nat) (w : World) (a : Option Addr) (T : TypeId) (sz cap n : Nat) (vs : List Value) : Prop := w.ownsRow lo T sz (.slice a n cap) n vs
section
variable {lo : Nat} {w w' : World} {a : Option Addr} {T : TypeId} {sz cap n : Nat} {vs : List Value}
theorem OwnN.nil : OwnN lo w none T sz 0 0 [] := ⟨by simp, Or.inl ⟨rfl, rfl⟩⟩
theorem OwnN.isnil (h : OwnN lo w none T sz cap n vs) : cap = 0 ∧ n = 0 ∧ vs = [] := by
  rcases h.2 with ⟨h1, h2⟩ | ⟨g, cap', cur, h1, _⟩
  · simp only [Value.slice.injEq] at h1
    refine ⟨h1.2.2, h2, ?_⟩
    have := h.1
    rw [h2, Nat.zero_mul] at this
    exact List.eq_nil_of_length_eq_zero this
  · simp at h1
theorem OwnN.own {B : Nat} (h : OwnN lo w (some ⟨B, 0, none⟩) T sz cap n vs) : Own w B T sz cap n vs ∧ lo ≤ B := by
  rcases h.2 with ⟨h1, _⟩ | ⟨g, cap', cur, h1, h2, h3⟩
  · simp at h1
  · simp only [Value.slice.injEq, Option.some.injEq, Addr.mk.injEq, and_true, true_and] at h1
    obtain ⟨rfl, rfl⟩ := h1
    exact ⟨⟨h.1, Or.inr ⟨_, _, cur, rfl, Nat.zero_le _, h3⟩⟩, h2⟩
theorem OwnN.of {B : Nat} (h : Own w B T sz cap n vs) (hl : lo ≤ B) : OwnN lo w (some ⟨B, 0, none⟩) T sz cap n vs := by
  rcases h.2 with ⟨h1, _⟩ | ⟨g, cap', cur, h1, h2, h3⟩
  · simp at h1
  · simp only [Value.slice.injEq, Option.some.injEq, Addr.mk.injEq, and_true, true_and] at h1
    obtain ⟨rfl, rfl⟩ := h1
    exact ⟨h.1, Or.inr ⟨_, _, cur, rfl, hl, h3⟩⟩
theorem OwnN.form (h : OwnN lo w a T sz cap n vs) : (a = .none ∧ n = 0 ∧ cap = 0 ∧ vs = []) ∨ ∃ B, a = some ⟨B, 0, .none⟩ ∧ lo ≤ B ∧ B < w.heap.size ∧ Own w B T sz cap n vs := by
  rcases h.2 with ⟨h1, h2⟩ | ⟨g, cap', cur, h1, h2, h3⟩
  · simp only [Value.slice.injEq] at h1
    obtain ⟨rfl, h4, h5⟩ := h1
    exact Or.inl ⟨rfl, h2, h5, (OwnN.isnil h).2.2⟩
  · simp only [Value.slice.injEq, true_and] at h1
    obtain ⟨rfl, rfl⟩ := h1
    have ho := OwnN.own h
    exact Or.inr ⟨g, rfl, h2, ho.1.lt, ho.1⟩
theorem OwnN.some_ (h : OwnN lo w a T sz cap n vs) (hn : 0 < n) : ∃ B, a = some ⟨B, 0, .none⟩ ∧ lo ≤ B ∧ Own w B T sz cap n vs := by
  rcases h.form with ⟨_, h2, _⟩ | ⟨B, h1, h2, _, h3⟩
  · omega
  · exact ⟨B, h1, h2, h3⟩
theorem OwnN.grown {r : Option Nat} (h : OwnN lo w a T sz cap n vs) (hg : w.grownBy w' r) (hne : ∀ B, a = some ⟨B, 0, .none⟩ → some B ≠ r) : OwnN lo w' a T sz cap n vs := by
  rcases h.form with ⟨rfl, rfl, rfl, rfl⟩ | ⟨B, rfl, h2, _, h3⟩
  · exact OwnN.nil
  · exact OwnN.of (h3.grown hg (hne B rfl)) h2
theorem OwnN.grown0 (h : OwnN lo w a T sz cap n vs) (hg : w.grownBy w' .none) : OwnN lo w' a T sz cap n vs := h.grown hg (by simp)
theorem OwnN.grown_lt {b : Nat} (h : OwnN lo w a T sz cap n vs) (hg : w.grownBy w' (some b)) (hb : b < lo) : OwnN lo w' a T sz cap n vs := by
  rcases h.form with ⟨rfl, rfl, rfl, rfl⟩ | ⟨B, rfl, h2, _, h3⟩
  · exact OwnN.nil
  · exact OwnN.of (h3.grown hg (Xf (by omega))) h2
theorem OwnN.mono {lo' : Nat} (h : OwnN lo w a T sz cap n vs) (hl : lo' ≤ lo) : OwnN lo' w a T sz cap n vs := by
  rcases h.form with ⟨rfl, rfl, rfl, rfl⟩ | ⟨B, rfl, h2, _, h3⟩
  · exact OwnN.nil
  · exact OwnN.of h3 (Nat.le_trans hl h2)
theorem OwnN.sl {α : Type} {g : α → List Value} (hg : Wide g sz) (h0 : 0 < sz) {ys : List α} (h : OwnN lo w a T sz cap n (ys.flatMap g)) : SlAt w a sz (ys.map g) := by
  rcases h.form with ⟨rfl, rfl, rfl, hn⟩ | ⟨B, rfl, h2, _, h3⟩
  · have hl := Qe hg ys
    rw [hn] at hl
    have : ys.length = 0 := by
      rcases Nat.eq_zero_or_pos ys.length with h5 | h5
      · exact h5
      · have h6 := Nat.mul_pos h5 h0
        simp at hl
        omega
    rw [List.eq_nil_of_length_eq_zero this]
    exact fun k x hk => by simp at hk
  · exact Own.sl hg h3
theorem OwnN.cap0 (h : OwnN lo w a T sz cap n vs) (ha : a = .none) : cap = 0 := by
  subst ha
  exact h.isnil.1
end
section
variable {P : Program} {n : Nat} {ops : Array Oper} {K : Fr → World → Prop} {l : List Oper} {f : Fr} {w : World} {ty : TypeId} {pos : String} {aft : Array Edge} {d : Nat}
end
theorem Own.blk {w : World} {B : Nat} {T : TypeId} {sz cap n : Nat} {vs : List Value} (h : Own w B T sz cap n vs) : vs.length = n * sz ∧ ∃ cur : Array Value, Blk w B T cur ∧ n ≤ cap ∧ cap ≤ maxLen ∧ cur.size = cap * sz ∧ cur.toList.take (n * sz) = vs := by
  refine ⟨h.1, ?_⟩
  rcases h.2 with ⟨h1, _⟩ | ⟨g, cap', cur, h1, _, h3, h4⟩
  · simp at h1
  · simp only [Value.slice.injEq, Option.some.injEq, Addr.mk.injEq, and_true, true_and] at h1
    obtain ⟨rfl, rfl⟩ := h1
    exact ⟨cur, h3, h4⟩
theorem Own.ofBlk {w : World} {B : Nat} {T : TypeId} {sz cap n : Nat} {vs : List Value} {cur : Array Value} (hl : vs.length = n * sz) (hb : Blk w B T cur) (h1 : n ≤ cap) (h2 : cap ≤ maxLen) (h3 : cur.size = cap * sz) (h4 : cur.toList.take (n * sz) = vs) : Own w B T sz cap n vs :=
  ⟨hl, Or.inr ⟨B, cap, cur, rfl, Nat.zero_le _, hb, h1, h2, h3, h4⟩⟩
theorem Pe {cur vs : List Value} {o m : Nat} {us : List Value} (h : cur.take m = vs) (hm : m ≤ cur.length) (ho : o + us.length ≤ m) : (cur.take o ++ us ++ cur.drop (o + us.length)).take m = vs.take o ++ us ++ vs.drop (o + us.length) := by
  subst h
  have e1 : (cur.take o).length = o := by rw [List.length_take]; omega
  have e2 : (cur.take m).take o = cur.take o := by rw [List.take_take, Nat.min_eq_left (by omega)]
  have e3 : (cur.take m).drop (o + us.length) = (cur.drop (o + us.length)).take (m - (o + us.length)) := List.drop_take ..
  rw [e2, e3, List.take_append, List.take_of_length_le (l := cur.take o ++ us) (by rw [List.length_append, e1]; exact ho), List.length_append, e1]
section
variable {P : Program} {n : Nat} {ops : Array Oper} {K : Fr → World → Prop} {l : List Oper} {f : Fr} {w : World} {ty : TypeId} {pos : String} {aft : Array Edge} {d : Nat}
theorem Gr {α : Type} {g : α → List Value} {t b o sz cap k j : Nat} {T : TypeId} {x y : Operand} {v : Value} {ys : List α} {z z' : α} (ht : oneTy P t = true) (hx : ev f x = .pointer (some ⟨b, o, none⟩)) (hy : ev f y = v) (h1 : v.oneCell' = true)
    (hg : Wide g sz) (ho : Own w b T sz cap ys.length (ys.flatMap g)) (hk : ys[k]? = some z) (hj : j < sz) (e : o = k * sz + j) (hv : (g z).set j v = g z')
    (h : ∀ w', Own w' b T sz cap (ys.set k z').length ((ys.set k z').flatMap g) → w.grownBy w' (some b) → WpO P n ops K l f w') : WpO P n ops K (⟨none, .store t x y, ty, pos, aft, none⟩ :: l) f w := by
  obtain ⟨hl, cur, hb, h2, h3, h4, h5⟩ := ho.blk
  have hlt : k * sz + j < ys.length * sz := by
    have := G8 hg hk hj
    rwa [List.size_toArray, Qe hg] at this
  have hcap : ys.length * sz ≤ cap * sz := Nat.mul_le_mul_right _ h2
  subst e
  have hin : k * sz + j < cur.size := by rw [h4]; exact Nat.lt_of_lt_of_le hlt hcap
  refine Vi (w' := w.setRow b (cur.setIfInBounds (k * sz + j) v)) rfl rfl (by simp [execOp, hx, hy, Ve ht h1 hb hin]) (h _ (Own.ofBlk ?_ (setB_setRow hb _).blk (by rw [List.length_set]; exact h2) h3 (by rw [Array.size_setIfInBounds]; exact h4) ?_) (setB_setRow hb _).grw)
  · rw [Qe hg]
  · have hset := congrArg Array.toList (Wi hg hk z' hj hv)
    rw [List.length_set, Array.toList_setIfInBounds, List.take_set, h5]
    simpa using hset
end
theorem SlAt.nil {w : World} {a : Option Addr} {sz : Nat} : SlAt w a sz [] := fun k x hk => by simp at hk
def ThAt (w : World) (m : MTh) : Prop := SlAt w m.sa 5 (m.t.slots.map Rt.cells) ∧ SlAt w m.qa 1 (m.t.queue.map icell) ∧ (m.sa = none → m.sc = 0) ∧ (m.qa = none → m.qc = 0)
theorem ThAt.low {w w' : World} {m : MTh} (h : ThAt w m) (hg : w.grownBy w' none) : ThAt w' m := ⟨h.1.low hg, h.2.1.low hg, h.2.2⟩
def TabAt (w : World) (a : Option Addr) (ts : List MTh) : Prop := SlAt w a 8 (ts.map MTh.cells) ∧ ∀ m ∈ ts, ThAt w m
theorem TabAt.low {w w' : World} {a : Option Addr} {ts : List MTh} (h : TabAt w a ts) (hg : w.grownBy w' none) : TabAt w' a ts := ⟨h.1.low hg, fun m hm => (h.2 m hm).low hg⟩
theorem TabAt.th {w : World} {a : Option Addr} {ts : List MTh} (h : TabAt w a ts) {k : Nat} {m : MTh} (hk : ts[k]? = some m) : ThAt w m := h.2 m (List.mem_of_getElem? hk)
def arrTy (P : Program) (t : TypeId) : Option (Nat × TypeId × Nat) :=
  match P.underlying t with
  | some (.array m e) => (P.info? e).map fun i => (m, e, i.size)
  | _ => none
theorem Ue {P : Program} {t e m sz : Nat} (h : arrTy P t = some (m, e, sz)) : P.underlying t = some (.array m e) ∧ ∃ i, P.info? e = some i ∧ i.size = sz := by
  unfold arrTy at h
  split at h
  · rename_i m' e' hu
    cases hq : P.info? e' with
    | none => rw [hq] at h; cases h
    | some i =>
      rw [hq] at h
      simp only [Option.map_some, Option.some.injEq, Prod.mk.injEq] at h
      obtain ⟨rfl, rfl, rfl⟩ := h
      exact ⟨hu, i, hq, rfl⟩
  · cases h
theorem Pf {α : Type} {g : α → List Value} {sz : Nat} (hg : Wide g sz) {ys : List α} {k : Nat} {z : α} (hk : ys[k]? = some z) : (ys.flatMap g).toArray.extract (k * sz) (k * sz + sz) = (g z).toArray := by
  apply Array.ext'
  rw [Array.toList_extract, List.extract_eq_take_drop, List.toList_toArray, List.toList_toArray, K4 hg, Kl hk, List.flatMap_cons, Nat.add_sub_cancel_left, List.take_append, hg z, List.take_of_length_le (by rw [hg z]; exact Nat.le_refl _)]
  simp
theorem SlAt.all {α : Type} {g : α → List Value} {w : World} {a : Option Addr} {sz : Nat} (hg : Wide g sz) (h0 : 0 < sz) {ys : List α} (h : SlAt w a sz (ys.map g)) (hne : 0 < ys.length) : ∃ b q, a = some ⟨b, q, none⟩ ∧ w.rangeAt b q (ys.flatMap g) := by
  obtain ⟨y, hy⟩ := Zf hne
  obtain ⟨b, q, ha, _⟩ := h _ _ (Yn hy)
  refine ⟨b, q, ha, fun j v hj => ?_⟩
  have hlt : j < ys.length * sz := by rw [← Qe hg ys]; exact (List.getElem?_eq_some_iff.1 hj).1
  obtain ⟨z, hz⟩ := Zf ((Nat.div_lt_iff_lt_mul h0).2 hlt)
  obtain ⟨b', q', ha', hr⟩ := h _ _ (Yn hz)
  rw [ha] at ha'
  simp only [Option.some.injEq, Addr.mk.injEq] at ha'
  obtain ⟨rfl, rfl, _⟩ := ha'
  have hm : j % sz < sz := Nat.mod_lt _ h0
  have hd : (j / sz) * sz + j % sz = j := by rw [Nat.mul_comm]; exact Nat.div_add_mod j sz
  have h3 := Kv hg hz (j := j % sz) (List.getElem?_eq_getElem (by rw [hg z]; exact hm))
  rw [hd, hj] at h3
  have h4 := hr (j % sz) v (by rw [List.getElem?_eq_getElem (by rw [hg z]; exact hm)]; exact h3.symm)
  rwa [Nat.add_assoc, hd] at h4
section
variable {P : Program} {n : Nat} {ops : Array Oper} {K : Fr → World → Prop} {l : List Oper} {f : Fr} {w : World} {ty : TypeId} {pos : String} {aft : Array Edge} {d : Nat}
theorem Ry {t e m sz len cap b q : Nat} {a : Option Addr} {x : Operand} (ht : arrTy P t = some (m, e, sz)) (hx : ev f x = .slice a len cap) (ha : a = some ⟨b, q, none⟩) (hm : m ≤ len) (hd : Nat.blt d n = true)
    (h : WpO P n ops K l (up f d (.pointer (some ⟨b, q, none⟩))) w) : WpO P n ops K (⟨some d, .sliceToArrayPointer t x, ty, pos, aft, none⟩ :: l) f w := by
  have hu := (Ue ht).1
  refine Zp rfl hd ?_ h
  simp only [execOp, hx, Instr.arrayAt, Sem.run_bind, run_underlying hu, Result.andThen_ok, if_neg (Nat.not_lt.2 hm), ha]
  rfl
theorem W0 {α : Type} {g : α → List Value} {ys : List α} {z : α} {t e m sz : Nat} {k : IntKind} {i : Int} {x y : Operand} (ht : arrTy P t = some (m, e, sz)) (hr : rowTy P e = some sz) (hg : Wide g sz) (hx : ev f x = .agg (ys.flatMap g).toArray) (hy : ev f y = .int k i)
    (h0 : 0 ≤ i) (h1 : i < m) (hk : ys[i.toNat]? = some z) (hd : Nat.blt d n = true) (h : WpO P n ops K l (up f d (.agg (g z).toArray)) w) : WpO P n ops K (⟨some d, .index t x y, ty, pos, aft, none⟩ :: l) f w := by
  obtain ⟨hu, inf, hi, hs⟩ := Ue ht
  obtain ⟨dd, hue, hrow, _⟩ := Kk hr
  have hz : (sizeOf e).run P w = .ok sz w := by simp [sizeOf, typeInfo, hi, hs]
  have hagg : (isAgg e).run P w = .ok true w := by
    unfold isAgg
    cases dd <;> first | (cases hrow; done) | simp [run_underlying hue]
  have hpart : (part e (ys.flatMap g).toArray (i.toNat * sz)).run P w = .ok (.agg (g z).toArray) w := by
    simp only [part, Sem.run_bind, hagg, Result.andThen_ok, if_true, hz]
    rw [Pf hg hk]
    rfl
  refine Zp rfl hd ?_ h
  simp [execOp, hx, hy, Instr.index, asIntOf, run_underlying hu, hz, h0, h1, hpart]
end
end Go.Dw
end
section
namespace Go.Proofs.YtfoplmgoiblkgaaDoor
open Go.RowKit Go.Dw
set_option maxRecDepth 100000
set_option maxHeartbeats 4000000
set_option linter.unusedSimpArgs false
set_option linter.unusedVariables false
theorem Yp : fieldOff Tryd.prog 37 0 = some 0 := by kernel_rfl
theorem Ql : fieldOff Tryd.prog 37 1 = some 1 := by kernel_rfl
theorem Qv : fieldOff Tryd.prog 37 3 = some 3 := by kernel_rfl
theorem Kc : fieldOff Tryd.prog 37 4 = some 4 := by kernel_rfl
theorem Jh : fieldOff Tryd.prog 39 0 = some 0 := by kernel_rfl
theorem Jw : fieldOff Tryd.prog 39 1 = some 1 := by kernel_rfl
theorem P5 : goFn Tryd.prog 81 = true := by kernel_rfl
theorem S7 : goFn Tryd.prog 88 = true := by kernel_rfl
theorem Tb : goFn Tryd.prog 89 = true := by kernel_rfl
theorem X3 : oneTy Tryd.prog 3 = true := by kernel_rfl
theorem Zv : oneTy Tryd.prog 4 = true := by kernel_rfl
theorem Y8 : rowTy Tryd.prog 37 = some 5 := by kernel_rfl
theorem Qd : rowTy Tryd.prog 39 = some 2 := by kernel_rfl
theorem Zi : Tryd.prog.follows .mixedOrders = true := by kernel_rfl
theorem Rn (x y : Operand) (a b : Rt) (w : World) : (eqGuard .eql 37 x y (.agg a.cells.toArray) (.agg b.cells.toArray)).run Tryd.prog w = .ok () w := by kernel_rfl
theorem Pb (a b : Rt) (w : World) : (binOp .eql 37 (.agg a.cells.toArray) (.agg b.cells.toArray)).run Tryd.prog w = .ok (.bool (decide (a = b))) w := by
  have h := run_equalIn_struct (P := Tryd.prog) w 9999 37 a.cells.toArray b.cells.toArray (by kernel_rfl) (by kernel_rfl)
  obtain ⟨a0, a1, a2, a3, a4⟩ := a
  obtain ⟨b0, b1, b2, b3, b4⟩ := b
  simp only [binOp, Op.equal, Op.maxDepth, Sem.run_bind, Rt.cells] at h ⊢
  rw [h]
  simp [go_sem]
  (repeat' split) <;> simp_all
theorem Vr (l : Lab) (w : World) : CallsR Tryd.prog 81 #[.agg #[.int .i64 l.s, .int .i64 l.v]] w (fun v w' => v = .bool (labelOk l) ∧ w.grownBy w' none) := by
 refine X0 (n := 21) Tryd.func81 rfl Tryd.ntmps81 rfl ?_
 have hb0 := World.grownBy.refl w none
 refine Xb ?_
 refine Yu (v := .agg #[.int .i64 l.s, .int .i64 l.v]) (cs := #[.int .i64 l.s, .int .i64 l.v]) rfl rfl rfl ?_
 intro B101 w102 hN103
 have hlB101 := Yf hN103 hb0
 have hb104 := low0 hb0 hN103.grw
 refine Xh (v := .bool false) rfl rfl ?_
 refine Xa ?_
 refine X2 (fun f' w' => (f' 2 = .bool ((((decide (0 ≤ l.s)) && (decide (l.s ≤ 3))) && (decide (0 ≤ l.v))) && (decide (l.v ≤ 3)))) ∧ w102 = w') ?_ ?_
 ·
  refine Xd (o' := 0) Jh rfl rfl rfl ?_
  refine Xi (v := .int .i64 l.s) X3 rfl (hN103.blk.cell rfl) rfl ?_
  refine Vl (q := decide (0 ≤ l.s)) rfl rfl rfl rfl ?_
  refine Xc (v := .bool (decide (0 ≤ l.s))) rfl rfl ?_
  rcases Yb (decide (0 ≤ l.s)) with h105 | h105
  ·
   have h106 := of_decide_eq_true h105
   refine Xe rfl rfl rfl h105 ?_
   refine Xd (o' := 0) Jh rfl rfl rfl ?_
   refine Xe rfl rfl rfl h105 ?_
   refine Xi (v := .int .i64 l.s) X3 rfl (hN103.blk.cell rfl) rfl ?_
   refine Xe rfl rfl rfl h105 ?_
   refine Jz (q := decide (l.s ≤ 3)) rfl rfl rfl rfl ?_
   refine Xr (v := .bool (decide (l.s ≤ 3))) rfl h105 rfl rfl ?_
   refine Xc (v := .bool (decide (l.s ≤ 3))) rfl rfl ?_
   rcases Yb (decide (l.s ≤ 3)) with h107 | h107
   ·
    have h108 := of_decide_eq_true h107
    refine Xe rfl rfl rfl h107 ?_
    refine Xd (o' := 1) Jw rfl rfl rfl ?_
    refine Xe rfl rfl rfl h107 ?_
    refine Xi (v := .int .i64 l.v) X3 rfl (hN103.blk.cell rfl) rfl ?_
    refine Xe rfl rfl rfl h107 ?_
    refine Vl (q := decide (0 ≤ l.v)) rfl rfl rfl rfl ?_
    refine Xr (v := .bool (decide (0 ≤ l.v))) rfl h107 rfl rfl ?_
    refine Xc (v := .bool (decide (0 ≤ l.v))) rfl rfl ?_
    rcases Yb (decide (0 ≤ l.v)) with h109 | h109
    ·
     have h110 := of_decide_eq_true h109
     refine Xe rfl rfl rfl h109 ?_
     refine Xd (o' := 1) Jw rfl rfl rfl ?_
     refine Xe rfl rfl rfl h109 ?_
     refine Xi (v := .int .i64 l.v) X3 rfl (hN103.blk.cell rfl) rfl ?_
     refine Xe rfl rfl rfl h109 ?_
     refine Jz (q := decide (l.v ≤ 3)) rfl rfl rfl rfl ?_
     refine Xr (v := .bool (decide (l.v ≤ 3))) rfl h109 rfl rfl ?_
     refine Xh (v := .bool (decide (l.v ≤ 3))) rfl rfl ?_
     exact Xa ⟨(congrArg Value.bool (by first | (simp only [h105, h107, h109, b0, b1, b2, b3, b4, b5, b6, b7, b8, b9]; done) | simp [h105, h107, h109])), rfl⟩
    ·
     have h111 := of_decide_eq_false h109
     iterate 3 refine Xk rfl rfl rfl h109 rfl ?_
     refine Xl (v := .bool false) rfl h109 rfl rfl ?_
     refine Xh (v := .bool false) rfl rfl ?_
     exact Xa ⟨(congrArg Value.bool (by first | (simp only [h105, h107, h109, b0, b1, b2, b3, b4, b5, b6, b7, b8, b9]; done) | simp [h105, h107, h109])), rfl⟩
   ·
    have h112 := of_decide_eq_false h107
    iterate 3 refine Xk rfl rfl rfl h107 rfl ?_
    refine Xl (v := .bool false) rfl h107 rfl rfl ?_
    refine Xc (v := .bool false) rfl rfl ?_
    iterate 3 refine Xk rfl rfl rfl rfl rfl ?_
    refine Xl (v := .bool false) rfl rfl rfl rfl ?_
    refine Xh (v := .bool false) rfl rfl ?_
    exact Xa ⟨(congrArg Value.bool (by first | (simp only [h105, h107, b0, b1, b2, b3, b4, b5, b6, b7, b8, b9]; done) | simp [h105, h107])), rfl⟩
  ·
   have h113 := of_decide_eq_false h105
   iterate 3 refine Xk rfl rfl rfl h105 rfl ?_
   refine Xl (v := .bool false) rfl h105 rfl rfl ?_
   refine Xc (v := .bool false) rfl rfl ?_
   iterate 3 refine Xk rfl rfl rfl rfl rfl ?_
   refine Xl (v := .bool false) rfl rfl rfl rfl ?_
   refine Xc (v := .bool false) rfl rfl ?_
   iterate 3 refine Xk rfl rfl rfl rfl rfl ?_
   refine Xl (v := .bool false) rfl rfl rfl rfl ?_
   refine Xh (v := .bool false) rfl rfl ?_
   exact Xa ⟨(congrArg Value.bool (by first | (simp only [h105, b0, b1, b2, b3, b4, b5, b6, b7, b8, b9]; done) | simp [h105])), rfl⟩
 ·
  rintro f114 w115 ⟨e116, rfl⟩
  refine Xs ?_
  refine ⟨.bool ((((decide (0 ≤ l.s)) && (decide (l.s ≤ 3))) && (decide (0 ≤ l.v))) && (decide (l.v ≤ 3))), Yq rfl e116, ?_, hb104⟩
  simp [labelOk, inR, Bool.and_assoc]
theorem Vx (l : Lab) (hl : labelOk l = true) (w : World) : CallsR Tryd.prog 88 #[.agg #[.int .i64 l.s, .int .i64 l.v]] w (fun v w' => v = .tuple #[.int .u64 l.s, .int .u64 l.v] ∧ w.grownBy w' none) := by
 refine X0 (n := 10) Tryd.func88 rfl Tryd.ntmps88 rfl ?_
 have hb0 := World.grownBy.refl w none
 obtain ⟨⟨hl1, hl2⟩, hl3, hl4⟩ := (Jr l).1 hl
 refine Xb ?_
 refine Yu (v := .agg #[.int .i64 l.s, .int .i64 l.v]) (cs := #[.int .i64 l.s, .int .i64 l.v]) rfl rfl rfl ?_
 intro B101 w102 hN103
 have hlB101 := Yf hN103 hb0
 have hb104 := low0 hb0 hN103.grw
 refine Xh (v := .int .u64 0) rfl rfl ?_
 refine Xh (v := .int .u64 0) rfl rfl ?_
 refine Xa ?_
 refine Xt ?_
 refine Ze (m := 7) (vals := [(4, .pointer (some ⟨B101, 0, none⟩)), (5, .int .i64 l.s), (6, .int .u64 l.s), (7, .pointer (some ⟨B101, 1, none⟩)), (8, .int .i64 l.v), (9, .int .u64 l.v), (2, .int .u64 l.s)]) (fun w' => w102.grownBy w' none) Zi (by kernel_rfl) (Yl _) ?_ ?_
 ·
  refine Xj rfl (fun w105 hi106 => ?_) ?_
  ·
   have hb107 := low0 hb104 hi106
   refine Xd (o' := 0) Jh rfl rfl rfl ?_
   exact Xa ⟨rfl, hi106⟩
  refine Xj rfl (fun w108 hi109 => ?_) ?_
  ·
   have hb110 := low0 hb104 hi109
   have k111 := (hN103.blk.grown0 hi109)
   refine Xi (v := .int .i64 l.s) X3 rfl (k111.cell rfl) rfl ?_
   exact Xa ⟨rfl, hi109⟩
  refine Xj rfl (fun w112 hi113 => ?_) ?_
  ·
   have hb114 := low0 hb104 hi113
   refine Kw (P := Tryd.prog) (k' := .u64) rfl (by kernel_rfl) (by kernel_rfl) (Gy (by omega) (by omega)) rfl ?_
   exact Xa ⟨rfl, hi113⟩
  refine Xj rfl (fun w115 hi116 => ?_) ?_
  ·
   have hb117 := low0 hb104 hi116
   refine Xd (o' := 1) Jw rfl rfl rfl ?_
   exact Xa ⟨rfl, hi116⟩
  refine Xj rfl (fun w118 hi119 => ?_) ?_
  ·
   have hb120 := low0 hb104 hi119
   have k121 := (hN103.blk.grown0 hi119)
   refine Xi (v := .int .i64 l.v) X3 rfl (k121.cell rfl) rfl ?_
   exact Xa ⟨rfl, hi119⟩
  refine Xj rfl (fun w122 hi123 => ?_) ?_
  ·
   have hb124 := low0 hb104 hi123
   refine Kw (P := Tryd.prog) (k' := .u64) rfl (by kernel_rfl) (by kernel_rfl) (Gy (by omega) (by omega)) rfl ?_
   exact Xa ⟨rfl, hi123⟩
  refine Xj rfl (fun w125 hi126 => ?_) ?_
  ·
   have hb127 := low0 hb104 hi126
   refine Xh (v := .int .u64 l.s) rfl rfl ?_
   exact Xa ⟨rfl, hi126⟩
  exact Zj
 ·
  intro w128 hi129
  have hb130 := low0 hb104 hi129
  refine Xh (v := .int .u64 l.v) rfl rfl ?_
  refine Xa ?_
  refine Xv ?_
  refine Xs ?_
  refine ⟨.tuple #[.int .u64 l.s, .int .u64 l.v], Bj rfl rfl rfl, ?_, hb130⟩
  rfl
theorem G7 (a b : Int) (w : World) : CallsR Tryd.prog 89 #[.int .u64 a, .int .u64 b] w (fun v w' => v = .bool (decide (bits .andNot .u64 a b = 0)) ∧ w.grownBy w' none) := by
 refine X0 (n := 9) Tryd.func89 rfl Tryd.ntmps89 rfl ?_
 have hb0 := World.grownBy.refl w none
 refine Xb ?_
 refine Xh (v := .bool false) rfl rfl ?_
 refine Xa ?_
 refine Xb ?_
 refine Xc (v := .int .u64 a) rfl rfl ?_
 refine Xc (v := .int .u64 b) rfl rfl ?_
 refine Qu (u := .int .u64 a) (u' := .int .u64 b) (v := .int .u64 (bits .andNot .u64 a b)) rfl rfl (by rw [binOp_andNot, intBits_andNot]; rfl) (fun _ _ => eqGuard_at_int ..) rfl ?_
 refine X4 (q := decide (bits .andNot .u64 a b = 0)) rfl rfl rfl rfl ?_
 refine Xh (v := .bool (decide (bits .andNot .u64 a b = 0))) rfl rfl ?_
 refine Xa ?_
 refine Xs ?_
 refine ⟨.bool (decide (bits .andNot .u64 a b = 0)), Yq rfl rfl, ?_, hb0⟩
 rfl
theorem V5 (a b : Lab) (w : World) : CallsR Tryd.prog 68 #[.agg #[.int .i64 a.s, .int .i64 a.v], .agg #[.int .i64 b.s, .int .i64 b.v]] w (fun v w' => v = .bool (labelFlow a b) ∧ w.grownBy w' none) := by
 refine X0 (n := 35) Tryd.func68 rfl Tryd.ntmps68 rfl ?_
 have hb0 := World.grownBy.refl w none
 refine Xb ?_
 refine Yu (v := .agg #[.int .i64 a.s, .int .i64 a.v]) (cs := #[.int .i64 a.s, .int .i64 a.v]) rfl rfl rfl ?_
 intro B101 w102 hN103
 have hlB101 := Yf hN103 hb0
 have hb104 := low0 hb0 hN103.grw
 refine Yu (v := .agg #[.int .i64 b.s, .int .i64 b.v]) (cs := #[.int .i64 b.s, .int .i64 b.v]) rfl rfl rfl ?_
 intro B105 w106 hN107
 have hlB105 := Yf hN107 hb104
 have lt_B101_B105 := Xq hN107 (hN103.blk).lt
 have hb108 := low0 hb104 hN107.grw
 refine Xh (v := .bool false) rfl rfl ?_
 refine Xa ?_
 refine Xt ?_
 refine X2 (fun f' w' => (f' 2 = .pointer (some ⟨B101, 0, none⟩) ∧ f' 3 = .pointer (some ⟨B105, 0, none⟩) ∧ f' 4 = .bool false ∧ f' 16 = .bool ((!labelOk a) || (!labelOk b))) ∧ w106.grownBy w' none) ?_ ?_
 ·
  have k121 := (hN103.blk.grown0 hN107.grw)
  refine Xu (vs := [.int .i64 a.s, .int .i64 a.v]) Qd rfl rfl (k121.rangeL 0 2 rfl) rfl ?_
  refine Xn (vs := [.agg #[.int .i64 a.s, .int .i64 a.v]]) P5 (Xg rfl Xm) rfl (Vr a _) ?_
  rintro _ w122 ⟨rfl, hg123⟩
  have hb124 := low0 hb108 hg123
  refine Yk (b' := !labelOk a) rfl rfl rfl ?_
  refine Xc (v := .bool (!labelOk a)) rfl rfl ?_
  rcases Yb (!labelOk a) with h125 | h125
  ·
   have h126 := Zn h125
   iterate 3 refine Xk rfl rfl rfl h125 rfl ?_
   refine Xr (v := .bool true) rfl h125 rfl rfl ?_
   exact Xa ⟨⟨rfl, rfl, rfl, (congrArg Value.bool (by first | (simp only [h125, h126, b0, b1, b2, b3, b4, b5, b6, b7, b8, b9]; done) | simp [h125, h126]))⟩, hg123⟩
  ·
   have h127 := Zh h125
   refine Xe rfl rfl rfl h125 ?_
   have k128 := (hN107.blk.grown0 hg123)
   refine Xu (vs := [.int .i64 b.s, .int .i64 b.v]) Qd rfl rfl (k128.rangeL 0 2 rfl) rfl ?_
   refine Xe rfl rfl rfl h125 ?_
   refine Xn (vs := [.agg #[.int .i64 b.s, .int .i64 b.v]]) P5 (Xg rfl Xm) rfl (Vr b _) ?_
   rintro _ w129 ⟨rfl, hg130⟩
   have hb131 := low0 hb124 hg130
   refine Xe rfl rfl rfl h125 ?_
   refine Yk (b' := !labelOk b) rfl rfl rfl ?_
   refine Xl (v := .bool (!labelOk b)) rfl h125 rfl rfl ?_
   exact Xa ⟨⟨rfl, rfl, rfl, (congrArg Value.bool (by first | (simp only [h125, h127, b0, b1, b2, b3, b4, b5, b6, b7, b8, b9]; done) | simp [h125, h127]))⟩, (grown_trans hg123 hg130)⟩
 ·
  rintro f132 w133 ⟨⟨e134, e135, e136, e137⟩, hg138⟩
  have hb139 := low0 hb108 hg138
  refine Xw e137 (fun h140 => ?_) (fun h140 => ?_)
  ·
   refine Xb ?_
   refine Xh (v := .bool false) rfl rfl ?_
   refine Xa ?_
   refine Xs ?_
   refine Yi ?_
   refine ⟨.bool false, Yq rfl rfl, ?_, hb139⟩
   exact congrArg Value.bool (W2 h140).symm
  ·
   have h141 := Qx h140
   have h142 := Zh h141
   have h143 := Qy h140
   have h144 := Zh h143
   refine Xy ?_
   refine Xv ?_
   refine Xb ?_
   have k145 := ((hN103.blk.grown0 hN107.grw).grown0 hg138)
   refine Xu (vs := [.int .i64 a.s, .int .i64 a.v]) Qd e134 rfl (k145.rangeL 0 2 rfl) rfl ?_
   refine Xn (vs := [.agg #[.int .i64 a.s, .int .i64 a.v]]) S7 (Xg rfl Xm) rfl (Vx a h142 _) ?_
   rintro _ w146 ⟨rfl, hg147⟩
   have hb148 := low0 hb139 hg147
   refine Xc (v := .tuple #[.int .u64 a.s, .int .u64 a.v]) rfl rfl ?_
   refine Yz (v := .int .u64 a.s) rfl rfl rfl ?_
   refine Yz (v := .int .u64 a.v) rfl rfl rfl ?_
   refine Xh (v := .int .u64 a.s) rfl rfl ?_
   refine Xh (v := .int .u64 a.v) rfl rfl ?_
   refine Xa ?_
   refine Xb ?_
   have k149 := ((hN107.blk.grown0 hg138).grown0 hg147)
   refine Xu (vs := [.int .i64 b.s, .int .i64 b.v]) Qd e135 rfl (k149.rangeL 0 2 rfl) rfl ?_
   refine Xn (vs := [.agg #[.int .i64 b.s, .int .i64 b.v]]) S7 (Xg rfl Xm) rfl (Vx b h144 _) ?_
   rintro _ w150 ⟨rfl, hg151⟩
   have hb152 := low0 hb148 hg151
   refine Xc (v := .tuple #[.int .u64 b.s, .int .u64 b.v]) rfl rfl ?_
   refine Yz (v := .int .u64 b.s) rfl rfl rfl ?_
   refine Yz (v := .int .u64 b.v) rfl rfl rfl ?_
   refine Xh (v := .int .u64 b.s) rfl rfl ?_
   refine Xh (v := .int .u64 b.v) rfl rfl ?_
   refine Xa ?_
   refine X2 (fun f' w' => (f' 4 = .bool ((decide (bits .andNot .u64 a.s b.s = 0)) && (decide (bits .andNot .u64 b.v a.v = 0)))) ∧ w150.grownBy w' none) ?_ ?_
   ·
    refine Xc (v := .int .u64 a.s) rfl rfl ?_
    refine Xc (v := .int .u64 b.s) rfl rfl ?_
    refine Xn (vs := [.int .u64 a.s, .int .u64 b.s]) Tb (Xg rfl (Xg rfl Xm)) rfl (G7 a.s b.s _) ?_
    rintro _ w162 ⟨rfl, hg163⟩
    have hb164 := low0 hb152 hg163
    refine Xc (v := .bool (decide (bits .andNot .u64 a.s b.s = 0))) rfl rfl ?_
    rcases Yb (decide (bits .andNot .u64 a.s b.s = 0)) with h165 | h165
    ·
     have h166 := of_decide_eq_true h165
     refine Xe rfl rfl rfl h165 ?_
     refine Xc (v := .int .u64 b.v) rfl rfl ?_
     refine Xe rfl rfl rfl h165 ?_
     refine Xc (v := .int .u64 a.v) rfl rfl ?_
     refine Xe rfl rfl rfl h165 ?_
     refine Xn (vs := [.int .u64 b.v, .int .u64 a.v]) Tb (Xg rfl (Xg rfl Xm)) rfl (G7 b.v a.v _) ?_
     rintro _ w167 ⟨rfl, hg168⟩
     have hb169 := low0 hb164 hg168
     refine Xr (v := .bool (decide (bits .andNot .u64 b.v a.v = 0))) rfl h165 rfl rfl ?_
     refine Xh (v := .bool (decide (bits .andNot .u64 b.v a.v = 0))) rfl rfl ?_
     exact Xa ⟨(congrArg Value.bool (by first | (simp only [h140, h141, h142, h143, h144, h165, b0, b1, b2, b3, b4, b5, b6, b7, b8, b9]; done) | simp [h140, h141, h142, h143, h144, h165])), (grown_trans hg163 hg168)⟩
    ·
     have h170 := of_decide_eq_false h165
     iterate 3 refine Xk rfl rfl rfl h165 rfl ?_
     refine Xl (v := .bool false) rfl h165 rfl rfl ?_
     refine Xh (v := .bool false) rfl rfl ?_
     exact Xa ⟨(congrArg Value.bool (by first | (simp only [h140, h141, h142, h143, h144, h165, b0, b1, b2, b3, b4, b5, b6, b7, b8, b9]; done) | simp [h140, h141, h142, h143, h144, h165])), hg163⟩
   ·
    rintro f171 w172 ⟨e173, hg174⟩
    have hb175 := low0 hb152 hg174
    refine Xs ?_
    refine ⟨.bool ((decide (bits .andNot .u64 a.s b.s = 0)) && (decide (bits .andNot .u64 b.v a.v = 0))), Yq rfl e173, ?_, hb175⟩
    exact congrArg Value.bool (Wb h142 h144)
theorem Wt (r : Rt) (w : World) : CallsR Tryd.prog 37 #[.agg #[.int .i64 r.th, .int .i64 r.ve, .bool r.rd, .bool r.wr, .bool r.wk]] w (fun v w' => v = .bool (rightOk r) ∧ w.grownBy w' none) := by
 refine X0 (n := 33) Tryd.func37 rfl Tryd.ntmps37 rfl ?_
 have hb0 := World.grownBy.refl w none
 refine Xb ?_
 refine Yu (v := .agg #[.int .i64 r.th, .int .i64 r.ve, .bool r.rd, .bool r.wr, .bool r.wk]) (cs := #[.int .i64 r.th, .int .i64 r.ve, .bool r.rd, .bool r.wr, .bool r.wk]) rfl rfl rfl ?_
 intro B101 w102 hN103
 have hlB101 := Yf hN103 hb0
 have hb104 := low0 hb0 hN103.grw
 refine Xh (v := .bool false) rfl rfl ?_
 refine Xa ?_
 refine Xt ?_
 refine Xb ?_
 refine Xu (vs := [.int .i64 r.th, .int .i64 r.ve, .bool r.rd, .bool r.wr, .bool r.wk]) Y8 rfl rfl (hN103.blk.rangeL 0 5 rfl) rfl ?_
 refine Yw (ps := []) (v := .agg #[.int .i64 0, .int .i64 0, .bool false, .bool false, .bool false]) X9 (by kernel_rfl) rfl ?_
 refine Lh (q := decide (r = Rt.zero)) rfl rfl (Rn _ _ r Rt.zero _) (Pb r Rt.zero _) rfl rfl ?_
 refine Xa ?_
 refine Xw rfl (fun h105 => ?_) (fun h105 => ?_)
 ·
  have h106 := of_decide_eq_true h105
  refine Xb ?_
  refine Xh (v := .bool true) rfl rfl ?_
  refine Xa ?_
  refine Xs ?_
  refine Yi ?_
  refine ⟨.bool true, Yq rfl rfl, ?_, hb104⟩
  simp [rightOk, inR, Bool.and_assoc, h105]
 ·
  have h107 := of_decide_eq_false h105
  refine Xy ?_
  refine Xv ?_
  refine X2 (fun f' w' => (f' 2 = .bool (((((decide (1 ≤ r.th)) && (decide (r.th ≤ 8))) && (decide (0 ≤ r.ve))) && (decide (r.ve ≤ 5))) && (!(r.wk && r.wr)))) ∧ w102 = w') ?_ ?_
  ·
   refine Xd (o' := 0) Yp rfl rfl rfl ?_
   refine Xi (v := .int .i64 r.th) X3 rfl (hN103.blk.cell rfl) rfl ?_
   refine Vl (q := decide (1 ≤ r.th)) rfl rfl rfl rfl ?_
   refine Xc (v := .bool (decide (1 ≤ r.th))) rfl rfl ?_
   rcases Yb (decide (1 ≤ r.th)) with h108 | h108
   ·
    have h109 := of_decide_eq_true h108
    refine Xe rfl rfl rfl h108 ?_
    refine Xd (o' := 0) Yp rfl rfl rfl ?_
    refine Xe rfl rfl rfl h108 ?_
    refine Xi (v := .int .i64 r.th) X3 rfl (hN103.blk.cell rfl) rfl ?_
    refine Xe rfl rfl rfl h108 ?_
    refine Jz (q := decide (r.th ≤ 8)) rfl rfl rfl rfl ?_
    refine Xr (v := .bool (decide (r.th ≤ 8))) rfl h108 rfl rfl ?_
    refine Xc (v := .bool (decide (r.th ≤ 8))) rfl rfl ?_
    rcases Yb (decide (r.th ≤ 8)) with h110 | h110
    ·
     have h111 := of_decide_eq_true h110
     refine Xe rfl rfl rfl h110 ?_
     refine Xd (o' := 1) Ql rfl rfl rfl ?_
     refine Xe rfl rfl rfl h110 ?_
     refine Xi (v := .int .i64 r.ve) X3 rfl (hN103.blk.cell rfl) rfl ?_
     refine Xe rfl rfl rfl h110 ?_
     refine Vl (q := decide (0 ≤ r.ve)) rfl rfl rfl rfl ?_
     refine Xr (v := .bool (decide (0 ≤ r.ve))) rfl h110 rfl rfl ?_
     refine Xc (v := .bool (decide (0 ≤ r.ve))) rfl rfl ?_
     rcases Yb (decide (0 ≤ r.ve)) with h112 | h112
     ·
      have h113 := of_decide_eq_true h112
      refine Xe rfl rfl rfl h112 ?_
      refine Xd (o' := 1) Ql rfl rfl rfl ?_
      refine Xe rfl rfl rfl h112 ?_
      refine Xi (v := .int .i64 r.ve) X3 rfl (hN103.blk.cell rfl) rfl ?_
      refine Xe rfl rfl rfl h112 ?_
      refine Jz (q := decide (r.ve ≤ 5)) rfl rfl rfl rfl ?_
      refine Xr (v := .bool (decide (r.ve ≤ 5))) rfl h112 rfl rfl ?_
      refine Xc (v := .bool (decide (r.ve ≤ 5))) rfl rfl ?_
      rcases Yb (decide (r.ve ≤ 5)) with h114 | h114
      ·
       have h115 := of_decide_eq_true h114
       refine Xe rfl rfl rfl h114 ?_
       refine Xd (o' := 4) Kc rfl rfl rfl ?_
       refine Xe rfl rfl rfl h114 ?_
       refine Xi (v := .bool r.wk) Zv rfl (hN103.blk.cell rfl) rfl ?_
       refine Xe rfl rfl rfl h114 ?_
       refine Xc (v := .bool r.wk) rfl rfl ?_
       rcases Yb (r.wk) with h116 | h116
       ·
        refine Xe rfl rfl rfl h116 ?_
        refine Xd (o' := 3) Qv rfl rfl rfl ?_
        refine Xe rfl rfl rfl h116 ?_
        refine Xi (v := .bool r.wr) Zv rfl (hN103.blk.cell rfl) rfl ?_
        refine Xe rfl rfl rfl h114 ?_
        refine Xr (v := .bool r.wr) rfl h116 rfl rfl ?_
        refine Xe rfl rfl rfl h114 ?_
        refine Yk (b' := !r.wr) rfl rfl rfl ?_
        refine Xr (v := .bool (!r.wr)) rfl h114 rfl rfl ?_
        refine Xh (v := .bool (!r.wr)) rfl rfl ?_
        exact Xa ⟨(congrArg Value.bool (by first | (simp only [h105, h108, h110, h112, h114, h116, b0, b1, b2, b3, b4, b5, b6, b7, b8, b9]; done) | simp [h105, h108, h110, h112, h114, h116])), rfl⟩
       ·
        refine Xk rfl rfl rfl h116 rfl ?_
        refine Xk rfl rfl rfl h116 rfl ?_
        refine Xe rfl rfl rfl h114 ?_
        refine Xl (v := .bool false) rfl h116 rfl rfl ?_
        refine Xe rfl rfl rfl h114 ?_
        refine Yk (b' := true) rfl rfl rfl ?_
        refine Xr (v := .bool true) rfl h114 rfl rfl ?_
        refine Xh (v := .bool true) rfl rfl ?_
        exact Xa ⟨(congrArg Value.bool (by first | (simp only [h105, h108, h110, h112, h114, h116, b0, b1, b2, b3, b4, b5, b6, b7, b8, b9]; done) | simp [h105, h108, h110, h112, h114, h116])), rfl⟩
      ·
       have h117 := of_decide_eq_false h114
       iterate 3 refine Xk rfl rfl rfl h114 rfl ?_
       refine Yg rfl rfl rfl rfl ?_
       refine Yg rfl rfl rfl rfl ?_
       refine Xk rfl rfl rfl h114 rfl ?_
       refine Xk rfl rfl rfl h114 rfl ?_
       refine Xl (v := .bool false) rfl h114 rfl rfl ?_
       refine Xh (v := .bool false) rfl rfl ?_
       exact Xa ⟨(congrArg Value.bool (by first | (simp only [h105, h108, h110, h112, h114, b0, b1, b2, b3, b4, b5, b6, b7, b8, b9]; done) | simp [h105, h108, h110, h112, h114])), rfl⟩
     ·
      have h118 := of_decide_eq_false h112
      iterate 3 refine Xk rfl rfl rfl h112 rfl ?_
      refine Xl (v := .bool false) rfl h112 rfl rfl ?_
      refine Xc (v := .bool false) rfl rfl ?_
      iterate 3 refine Xk rfl rfl rfl rfl rfl ?_
      refine Yg rfl rfl rfl rfl ?_
      refine Yg rfl rfl rfl rfl ?_
      refine Xk rfl rfl rfl rfl rfl ?_
      refine Xk rfl rfl rfl rfl rfl ?_
      refine Xl (v := .bool false) rfl rfl rfl rfl ?_
      refine Xh (v := .bool false) rfl rfl ?_
      exact Xa ⟨(congrArg Value.bool (by first | (simp only [h105, h108, h110, h112, b0, b1, b2, b3, b4, b5, b6, b7, b8, b9]; done) | simp [h105, h108, h110, h112])), rfl⟩
    ·
     have h119 := of_decide_eq_false h110
     iterate 3 refine Xk rfl rfl rfl h110 rfl ?_
     refine Xl (v := .bool false) rfl h110 rfl rfl ?_
     refine Xc (v := .bool false) rfl rfl ?_
     iterate 3 refine Xk rfl rfl rfl rfl rfl ?_
     refine Xl (v := .bool false) rfl rfl rfl rfl ?_
     refine Xc (v := .bool false) rfl rfl ?_
     iterate 3 refine Xk rfl rfl rfl rfl rfl ?_
     refine Yg rfl rfl rfl rfl ?_
     refine Yg rfl rfl rfl rfl ?_
     refine Xk rfl rfl rfl rfl rfl ?_
     refine Xk rfl rfl rfl rfl rfl ?_
     refine Xl (v := .bool false) rfl rfl rfl rfl ?_
     refine Xh (v := .bool false) rfl rfl ?_
     exact Xa ⟨(congrArg Value.bool (by first | (simp only [h105, h108, h110, b0, b1, b2, b3, b4, b5, b6, b7, b8, b9]; done) | simp [h105, h108, h110])), rfl⟩
   ·
    have h120 := of_decide_eq_false h108
    iterate 3 refine Xk rfl rfl rfl h108 rfl ?_
    refine Xl (v := .bool false) rfl h108 rfl rfl ?_
    refine Xc (v := .bool false) rfl rfl ?_
    iterate 3 refine Xk rfl rfl rfl rfl rfl ?_
    refine Xl (v := .bool false) rfl rfl rfl rfl ?_
    refine Xc (v := .bool false) rfl rfl ?_
    iterate 3 refine Xk rfl rfl rfl rfl rfl ?_
    refine Xl (v := .bool false) rfl rfl rfl rfl ?_
    refine Xc (v := .bool false) rfl rfl ?_
    iterate 3 refine Xk rfl rfl rfl rfl rfl ?_
    refine Yg rfl rfl rfl rfl ?_
    refine Yg rfl rfl rfl rfl ?_
    refine Xk rfl rfl rfl rfl rfl ?_
    refine Xk rfl rfl rfl rfl rfl ?_
    refine Xl (v := .bool false) rfl rfl rfl rfl ?_
    refine Xh (v := .bool false) rfl rfl ?_
    exact Xa ⟨(congrArg Value.bool (by first | (simp only [h105, h108, b0, b1, b2, b3, b4, b5, b6, b7, b8, b9]; done) | simp [h105, h108])), rfl⟩
  ·
   rintro f121 w122 ⟨e123, rfl⟩
   refine Xs ?_
   refine ⟨.bool (((((decide (1 ≤ r.th)) && (decide (r.th ≤ 8))) && (decide (0 ≤ r.ve))) && (decide (r.ve ≤ 5))) && (!(r.wk && r.wr))), Yq rfl e123, ?_, hb104⟩
   simp [rightOk, inR, Bool.and_assoc, h105]
end Go.Proofs.YtfoplmgoiblkgaaDoor
end
section
namespace Go.Proofs.YtfoplmgoiblkgaaDoor
open Go.RowKit Go.Dw
set_option maxRecDepth 100000
set_option maxHeartbeats 4000000
set_option linter.unusedSimpArgs false
set_option linter.unusedVariables false
theorem Q4 : goFn Tryd.prog 40 = true := by kernel_rfl
theorem S9 : goFn Tryd.prog 90 = true := by kernel_rfl
theorem Qk (n lo hi : Int) (w : World) : CallsR Tryd.prog 40 #[.int .i64 n, .int .i64 lo, .int .i64 hi] w (fun v w' => v = .bool (inR n lo hi) ∧ w.grownBy w' none) := by
 refine X0 (n := 15) Tryd.func40 rfl Tryd.ntmps40 rfl ?_
 have hb0 := World.grownBy.refl w none
 refine Xb ?_
 refine Xh (v := .bool false) rfl rfl ?_
 refine Xa ?_
 refine X2 (fun f' w' => (f' 6 = .bool ((decide (lo ≤ n)) && (decide (n ≤ hi)))) ∧ w = w') ?_ ?_
 ·
  refine Xc (v := .int .i64 n) rfl rfl ?_
  refine Xc (v := .int .i64 lo) rfl rfl ?_
  refine Vl (q := decide (lo ≤ n)) rfl rfl rfl rfl ?_
  refine Xc (v := .bool (decide (lo ≤ n))) rfl rfl ?_
  rcases Yb (decide (lo ≤ n)) with h101 | h101
  ·
   have h102 := of_decide_eq_true h101
   refine Xe rfl rfl rfl h101 ?_
   refine Xc (v := .int .i64 n) rfl rfl ?_
   refine Xe rfl rfl rfl h101 ?_
   refine Xc (v := .int .i64 hi) rfl rfl ?_
   refine Xe rfl rfl rfl h101 ?_
   refine Jz (q := decide (n ≤ hi)) rfl rfl rfl rfl ?_
   refine Xr (v := .bool (decide (n ≤ hi))) rfl h101 rfl rfl ?_
   refine Xh (v := .bool (decide (n ≤ hi))) rfl rfl ?_
   exact Xa ⟨(congrArg Value.bool (by first | (simp only [h101, b0, b1, b2, b3, b4, b5, b6, b7, b8, b9]; done) | simp [h101])), rfl⟩
  ·
   have h103 := of_decide_eq_false h101
   iterate 3 refine Xk rfl rfl rfl h101 rfl ?_
   refine Xl (v := .bool false) rfl h101 rfl rfl ?_
   refine Xh (v := .bool false) rfl rfl ?_
   exact Xa ⟨(congrArg Value.bool (by first | (simp only [h101, b0, b1, b2, b3, b4, b5, b6, b7, b8, b9]; done) | simp [h101])), rfl⟩
 ·
  rintro f104 w105 ⟨e106, rfl⟩
  refine Xs ?_
  refine ⟨.bool ((decide (lo ≤ n)) && (decide (n ≤ hi))), Yq rfl e106, ?_, hb0⟩
  rfl
theorem Z0 (n lo hi : Int) (w : World) : CallsR Tryd.prog 65 #[.int .i64 n, .int .i64 lo, .int .i64 hi] w (fun v w' => v = .bool (inR n lo hi) ∧ w.grownBy w' none) := by
 refine X0 (n := 15) Tryd.func65 rfl Tryd.ntmps65 rfl ?_
 have hb0 := World.grownBy.refl w none
 refine Xb ?_
 refine Xh (v := .bool false) rfl rfl ?_
 refine Xa ?_
 refine X2 (fun f' w' => (f' 6 = .bool ((decide (lo ≤ n)) && (decide (n ≤ hi)))) ∧ w = w') ?_ ?_
 ·
  refine Xc (v := .int .i64 lo) rfl rfl ?_
  refine Xc (v := .int .i64 n) rfl rfl ?_
  refine Jz (q := decide (lo ≤ n)) rfl rfl rfl rfl ?_
  refine Xc (v := .bool (decide (lo ≤ n))) rfl rfl ?_
  rcases Yb (decide (lo ≤ n)) with h101 | h101
  ·
   have h102 := of_decide_eq_true h101
   refine Xe rfl rfl rfl h101 ?_
   refine Xc (v := .int .i64 n) rfl rfl ?_
   refine Xe rfl rfl rfl h101 ?_
   refine Xc (v := .int .i64 hi) rfl rfl ?_
   refine Xe rfl rfl rfl h101 ?_
   refine Jz (q := decide (n ≤ hi)) rfl rfl rfl rfl ?_
   refine Xr (v := .bool (decide (n ≤ hi))) rfl h101 rfl rfl ?_
   refine Xh (v := .bool (decide (n ≤ hi))) rfl rfl ?_
   exact Xa ⟨(congrArg Value.bool (by first | (simp only [h101, b0, b1, b2, b3, b4, b5, b6, b7, b8, b9]; done) | simp [h101])), rfl⟩
  ·
   have h103 := of_decide_eq_false h101
   iterate 3 refine Xk rfl rfl rfl h101 rfl ?_
   refine Xl (v := .bool false) rfl h101 rfl rfl ?_
   refine Xh (v := .bool false) rfl rfl ?_
   exact Xa ⟨(congrArg Value.bool (by first | (simp only [h101, b0, b1, b2, b3, b4, b5, b6, b7, b8, b9]; done) | simp [h101])), rfl⟩
 ·
  rintro f104 w105 ⟨e106, rfl⟩
  refine Xs ?_
  refine ⟨.bool ((decide (lo ≤ n)) && (decide (n ≤ hi))), Yq rfl e106, ?_, hb0⟩
  rfl
theorem Hv (l : Lab) (w : World) : CallsR Tryd.prog 69 #[.agg #[.int .i64 l.s, .int .i64 l.v]] w (fun v w' => v = .bool (labelOk l) ∧ w.grownBy w' none) := by
 refine X0 (n := 11) Tryd.func69 rfl Tryd.ntmps69 rfl ?_
 have hb0 := World.grownBy.refl w none
 refine Xb ?_
 refine Yu (v := .agg #[.int .i64 l.s, .int .i64 l.v]) (cs := #[.int .i64 l.s, .int .i64 l.v]) rfl rfl rfl ?_
 intro B101 w102 hN103
 have hlB101 := Yf hN103 hb0
 have hb104 := low0 hb0 hN103.grw
 refine Xh (v := .bool false) rfl rfl ?_
 refine Xa ?_
 refine X2 (fun f' w' => (f' 2 = .bool (inR l.s 0 3 && inR l.v 0 3)) ∧ w102.grownBy w' none) ?_ ?_
 ·
  refine Xd (o' := 0) Jh rfl rfl rfl ?_
  refine Xi (v := .int .i64 l.s) X3 rfl (hN103.blk.cell rfl) rfl ?_
  refine Xn (vs := [.int .i64 l.s, .int .i64 0, .int .i64 3]) Q4 (Xg rfl (Xg rfl (Xg rfl Xm))) rfl (Qk l.s 0 3 _) ?_
  rintro _ w115 ⟨rfl, hg116⟩
  have hb117 := low0 hb104 hg116
  refine Xc (v := .bool (inR l.s 0 3)) rfl rfl ?_
  rcases Yb (inR l.s 0 3) with h118 | h118
  ·
   refine Xe rfl rfl rfl h118 ?_
   refine Xd (o' := 1) Jw rfl rfl rfl ?_
   refine Xe rfl rfl rfl h118 ?_
   have k119 := (hN103.blk.grown0 hg116)
   refine Xi (v := .int .i64 l.v) X3 rfl (k119.cell rfl) rfl ?_
   refine Xe rfl rfl rfl h118 ?_
   refine Xn (vs := [.int .i64 l.v, .int .i64 0, .int .i64 3]) Q4 (Xg rfl (Xg rfl (Xg rfl Xm))) rfl (Qk l.v 0 3 _) ?_
   rintro _ w120 ⟨rfl, hg121⟩
   have hb122 := low0 hb117 hg121
   refine Xr (v := .bool (inR l.v 0 3)) rfl h118 rfl rfl ?_
   refine Xh (v := .bool (inR l.v 0 3)) rfl rfl ?_
   exact Xa ⟨(congrArg Value.bool (by first | (simp only [h118, b0, b1, b2, b3, b4, b5, b6, b7, b8, b9]; done) | simp [h118])), (grown_trans hg116 hg121)⟩
  ·
   iterate 3 refine Xk rfl rfl rfl h118 rfl ?_
   refine Xl (v := .bool false) rfl h118 rfl rfl ?_
   refine Xh (v := .bool false) rfl rfl ?_
   exact Xa ⟨(congrArg Value.bool (by first | (simp only [h118, b0, b1, b2, b3, b4, b5, b6, b7, b8, b9]; done) | simp [h118])), hg116⟩
 ·
  rintro f123 w124 ⟨e125, hg126⟩
  have hb127 := low0 hb104 hg126
  refine Xs ?_
  refine ⟨.bool (inR l.s 0 3 && inR l.v 0 3), Yq rfl e125, ?_, hb127⟩
  rfl
theorem Rm (a b : Int) (ha : 0 ≤ a ∧ a ≤ 3) (hb : 0 ≤ b ∧ b ≤ 3) (w : World) : CallsR Tryd.prog 90 #[.int .i64 a, .int .i64 b] w (fun v w' => v = .bool (l1In a b) ∧ w.grownBy w' none) := by
 refine X0 (n := 17) Tryd.func90 rfl Tryd.ntmps90 rfl ?_
 have hb0 := World.grownBy.refl w none
 refine Xb ?_
 refine Xh (v := .bool false) rfl rfl ?_
 refine Xa ?_
 refine X2 (fun f' w' => (f' 4 = .bool ((decide (a % 2 ≤ b % 2)) && (decide (a / 2 ≤ b / 2)))) ∧ w = w') ?_ ?_
 ·
  refine Xc (v := .int .i64 a) rfl rfl ?_
  refine Kj (c := a % 2) rfl rfl (by omega) (by omega) (by omega) rfl rfl ?_
  refine Xc (v := .int .i64 b) rfl rfl ?_
  refine Kj (c := b % 2) rfl rfl (by omega) (by omega) (by omega) rfl rfl ?_
  refine Jz (q := decide (a % 2 ≤ b % 2)) rfl rfl rfl rfl ?_
  refine Xc (v := .bool (decide (a % 2 ≤ b % 2))) rfl rfl ?_
  rcases Yb (decide (a % 2 ≤ b % 2)) with h101 | h101
  ·
   have h102 := of_decide_eq_true h101
   refine Xe rfl rfl rfl h101 ?_
   refine Xc (v := .int .i64 a) rfl rfl ?_
   refine Xe rfl rfl rfl h101 ?_
   refine Jg (c := a / 2) rfl rfl (by omega) (by omega) (by omega) rfl rfl ?_
   refine Xe rfl rfl rfl h101 ?_
   refine Xc (v := .int .i64 b) rfl rfl ?_
   refine Xe rfl rfl rfl h101 ?_
   refine Jg (c := b / 2) rfl rfl (by omega) (by omega) (by omega) rfl rfl ?_
   refine Xe rfl rfl rfl h101 ?_
   refine Jz (q := decide (a / 2 ≤ b / 2)) rfl rfl rfl rfl ?_
   refine Xr (v := .bool (decide (a / 2 ≤ b / 2))) rfl h101 rfl rfl ?_
   refine Xh (v := .bool (decide (a / 2 ≤ b / 2))) rfl rfl ?_
   exact Xa ⟨(congrArg Value.bool (by first | (simp only [h101, b0, b1, b2, b3, b4, b5, b6, b7, b8, b9]; done) | simp [h101])), rfl⟩
  ·
   have h103 := of_decide_eq_false h101
   iterate 5 refine Xk rfl rfl rfl h101 rfl ?_
   refine Xl (v := .bool false) rfl h101 rfl rfl ?_
   refine Xh (v := .bool false) rfl rfl ?_
   exact Xa ⟨(congrArg Value.bool (by first | (simp only [h101, b0, b1, b2, b3, b4, b5, b6, b7, b8, b9]; done) | simp [h101])), rfl⟩
 ·
  rintro f104 w105 ⟨e106, rfl⟩
  refine Xs ?_
  refine ⟨.bool ((decide (a % 2 ≤ b % 2)) && (decide (a / 2 ≤ b / 2))), Yq rfl e106, ?_, hb0⟩
  rfl
theorem Hl (a b : Lab) (hla : labelOk a = true) (hlb : labelOk b = true) (w : World) : CallsR Tryd.prog 72 #[.agg #[.int .i64 a.s, .int .i64 a.v], .agg #[.int .i64 b.s, .int .i64 b.v]] w (fun v w' => v = .bool (flow a b) ∧ w.grownBy w' none) := by
 refine X0 (n := 17) Tryd.func72 rfl Tryd.ntmps72 rfl ?_
 have hb0 := World.grownBy.refl w none
 obtain ⟨⟨ha1, ha2⟩, ha3, ha4⟩ := (Jr a).1 hla
 obtain ⟨⟨hc1, hc2⟩, hc3, hc4⟩ := (Jr b).1 hlb
 refine Xb ?_
 refine Yu (v := .agg #[.int .i64 a.s, .int .i64 a.v]) (cs := #[.int .i64 a.s, .int .i64 a.v]) rfl rfl rfl ?_
 intro B101 w102 hN103
 have hlB101 := Yf hN103 hb0
 have hb104 := low0 hb0 hN103.grw
 refine Yu (v := .agg #[.int .i64 b.s, .int .i64 b.v]) (cs := #[.int .i64 b.s, .int .i64 b.v]) rfl rfl rfl ?_
 intro B105 w106 hN107
 have hlB105 := Yf hN107 hb104
 have lt_B101_B105 := Xq hN107 (hN103.blk).lt
 have hb108 := low0 hb104 hN107.grw
 refine Xh (v := .bool false) rfl rfl ?_
 refine Xa ?_
 refine X2 (fun f' w' => (f' 4 = .bool (l1In a.s b.s && l1In b.v a.v)) ∧ w106.grownBy w' none) ?_ ?_
 ·
  refine Xd (o' := 0) Jh rfl rfl rfl ?_
  have k122 := (hN103.blk.grown0 hN107.grw)
  refine Xi (v := .int .i64 a.s) X3 rfl (k122.cell rfl) rfl ?_
  refine Xd (o' := 0) Jh rfl rfl rfl ?_
  refine Xi (v := .int .i64 b.s) X3 rfl (hN107.blk.cell rfl) rfl ?_
  refine Xn (vs := [.int .i64 a.s, .int .i64 b.s]) S9 (Xg rfl (Xg rfl Xm)) rfl (Rm a.s b.s (by omega) (by omega) _) ?_
  rintro _ w123 ⟨rfl, hg124⟩
  have hb125 := low0 hb108 hg124
  refine Xc (v := .bool (l1In a.s b.s)) rfl rfl ?_
  rcases Yb (l1In a.s b.s) with h126 | h126
  ·
   refine Xe rfl rfl rfl h126 ?_
   refine Xd (o' := 1) Jw rfl rfl rfl ?_
   refine Xe rfl rfl rfl h126 ?_
   have k127 := (hN107.blk.grown0 hg124)
   refine Xi (v := .int .i64 b.v) X3 rfl (k127.cell rfl) rfl ?_
   refine Xe rfl rfl rfl h126 ?_
   refine Xd (o' := 1) Jw rfl rfl rfl ?_
   refine Xe rfl rfl rfl h126 ?_
   have k128 := (k122.grown0 hg124)
   refine Xi (v := .int .i64 a.v) X3 rfl (k128.cell rfl) rfl ?_
   refine Xe rfl rfl rfl h126 ?_
   refine Xn (vs := [.int .i64 b.v, .int .i64 a.v]) S9 (Xg rfl (Xg rfl Xm)) rfl (Rm b.v a.v (by omega) (by omega) _) ?_
   rintro _ w129 ⟨rfl, hg130⟩
   have hb131 := low0 hb125 hg130
   refine Xr (v := .bool (l1In b.v a.v)) rfl h126 rfl rfl ?_
   refine Xh (v := .bool (l1In b.v a.v)) rfl rfl ?_
   exact Xa ⟨(congrArg Value.bool (by first | (simp only [h126, b0, b1, b2, b3, b4, b5, b6, b7, b8, b9]; done) | simp [h126])), (grown_trans hg124 hg130)⟩
  ·
   iterate 5 refine Xk rfl rfl rfl h126 rfl ?_
   refine Xl (v := .bool false) rfl h126 rfl rfl ?_
   refine Xh (v := .bool false) rfl rfl ?_
   exact Xa ⟨(congrArg Value.bool (by first | (simp only [h126, b0, b1, b2, b3, b4, b5, b6, b7, b8, b9]; done) | simp [h126])), hg124⟩
 ·
  rintro f132 w133 ⟨e134, hg135⟩
  have hb136 := low0 hb108 hg135
  refine Xs ?_
  refine ⟨.bool (l1In a.s b.s && l1In b.v a.v), Yq rfl e134, ?_, hb136⟩
  rfl
theorem U8 (r : Rt) (w : World) : CallsR Tryd.prog 70 #[.agg #[.int .i64 r.th, .int .i64 r.ve, .bool r.rd, .bool r.wr, .bool r.wk]] w (fun v w' => v = .bool (rightOk r) ∧ w.grownBy w' none) := by
 refine X0 (n := 26) Tryd.func70 rfl Tryd.ntmps70 rfl ?_
 have hb0 := World.grownBy.refl w none
 refine Xb ?_
 refine Yu (v := .agg #[.int .i64 r.th, .int .i64 r.ve, .bool r.rd, .bool r.wr, .bool r.wk]) (cs := #[.int .i64 r.th, .int .i64 r.ve, .bool r.rd, .bool r.wr, .bool r.wk]) rfl rfl rfl ?_
 intro B101 w102 hN103
 have hlB101 := Yf hN103 hb0
 have hb104 := low0 hb0 hN103.grw
 refine Xh (v := .bool false) rfl rfl ?_
 refine Xa ?_
 refine Xt ?_
 refine Xb ?_
 refine Xd (o' := 0) Yp rfl rfl rfl ?_
 refine Xi (v := .int .i64 r.th) X3 rfl (hN103.blk.cell rfl) rfl ?_
 refine X4 (q := decide (r.th = 0)) rfl rfl rfl rfl ?_
 refine Xa ?_
 refine Xw rfl (fun h105 => ?_) (fun h105 => ?_)
 ·
  have h106 := of_decide_eq_true h105
  refine Xb ?_
  refine Xu (vs := [.int .i64 r.th, .int .i64 r.ve, .bool r.rd, .bool r.wr, .bool r.wk]) Y8 rfl rfl (hN103.blk.rangeL 0 5 rfl) rfl ?_
  refine Yw (ps := []) (v := .agg #[.int .i64 0, .int .i64 0, .bool false, .bool false, .bool false]) X9 (by kernel_rfl) rfl ?_
  refine Lh (q := decide (r = Rt.zero)) rfl rfl (Rn _ _ r Rt.zero _) (Pb r Rt.zero _) rfl rfl ?_
  refine Xh (v := .bool (decide (r = Rt.zero))) rfl rfl ?_
  refine Xa ?_
  refine Xs ?_
  refine Yi ?_
  refine ⟨.bool (decide (r = Rt.zero)), Yq rfl rfl, ?_, hb104⟩
  exact congrArg Value.bool (Nz h105)
 ·
  have h107 := of_decide_eq_false h105
  refine Xy ?_
  refine Xv ?_
  refine X2 (fun f' w' => (f' 2 = .bool ((inR r.th 1 8 && inR r.ve 0 5) && (!(r.wk && r.wr)))) ∧ w102.grownBy w' none) ?_ ?_
  ·
   refine Xd (o' := 0) Yp rfl rfl rfl ?_
   refine Xi (v := .int .i64 r.th) X3 rfl (hN103.blk.cell rfl) rfl ?_
   refine Xn (vs := [.int .i64 r.th, .int .i64 1, .int .i64 8]) Q4 (Xg rfl (Xg rfl (Xg rfl Xm))) rfl (Qk r.th 1 8 _) ?_
   rintro _ w119 ⟨rfl, hg120⟩
   have hb121 := low0 hb104 hg120
   refine Xc (v := .bool (inR r.th 1 8)) rfl rfl ?_
   rcases Yb (inR r.th 1 8) with h122 | h122
   ·
    refine Xe rfl rfl rfl h122 ?_
    refine Xd (o' := 1) Ql rfl rfl rfl ?_
    refine Xe rfl rfl rfl h122 ?_
    have k123 := (hN103.blk.grown0 hg120)
    refine Xi (v := .int .i64 r.ve) X3 rfl (k123.cell rfl) rfl ?_
    refine Xe rfl rfl rfl h122 ?_
    refine Xn (vs := [.int .i64 r.ve, .int .i64 0, .int .i64 5]) Q4 (Xg rfl (Xg rfl (Xg rfl Xm))) rfl (Qk r.ve 0 5 _) ?_
    rintro _ w124 ⟨rfl, hg125⟩
    have hb126 := low0 hb121 hg125
    refine Xr (v := .bool (inR r.ve 0 5)) rfl h122 rfl rfl ?_
    refine Xc (v := .bool (inR r.ve 0 5)) rfl rfl ?_
    rcases Yb (inR r.ve 0 5) with h127 | h127
    ·
     refine Xe rfl rfl rfl h127 ?_
     refine Xd (o' := 4) Kc rfl rfl rfl ?_
     refine Xe rfl rfl rfl h127 ?_
     have k128 := (k123.grown0 hg125)
     refine Xi (v := .bool r.wk) Zv rfl (k128.cell rfl) rfl ?_
     refine Xe rfl rfl rfl h127 ?_
     refine Xc (v := .bool r.wk) rfl rfl ?_
     rcases Yb (r.wk) with h129 | h129
     ·
      refine Xe rfl rfl rfl h129 ?_
      refine Xd (o' := 3) Qv rfl rfl rfl ?_
      refine Xe rfl rfl rfl h129 ?_
      refine Xi (v := .bool r.wr) Zv rfl (k128.cell rfl) rfl ?_
      refine Xe rfl rfl rfl h127 ?_
      refine Xr (v := .bool r.wr) rfl h129 rfl rfl ?_
      refine Xe rfl rfl rfl h127 ?_
      refine Yk (b' := !r.wr) rfl rfl rfl ?_
      refine Xr (v := .bool (!r.wr)) rfl h127 rfl rfl ?_
      refine Xh (v := .bool (!r.wr)) rfl rfl ?_
      exact Xa ⟨(congrArg Value.bool (by first | (simp only [h105, h122, h127, h129, b0, b1, b2, b3, b4, b5, b6, b7, b8, b9]; done) | simp [h105, h122, h127, h129])), (grown_trans hg120 hg125)⟩
     ·
      refine Xk rfl rfl rfl h129 rfl ?_
      refine Xk rfl rfl rfl h129 rfl ?_
      refine Xe rfl rfl rfl h127 ?_
      refine Xl (v := .bool false) rfl h129 rfl rfl ?_
      refine Xe rfl rfl rfl h127 ?_
      refine Yk (b' := true) rfl rfl rfl ?_
      refine Xr (v := .bool true) rfl h127 rfl rfl ?_
      refine Xh (v := .bool true) rfl rfl ?_
      exact Xa ⟨(congrArg Value.bool (by first | (simp only [h105, h122, h127, h129, b0, b1, b2, b3, b4, b5, b6, b7, b8, b9]; done) | simp [h105, h122, h127, h129])), (grown_trans hg120 hg125)⟩
    ·
     iterate 3 refine Xk rfl rfl rfl h127 rfl ?_
     refine Yg rfl rfl rfl rfl ?_
     refine Yg rfl rfl rfl rfl ?_
     refine Xk rfl rfl rfl h127 rfl ?_
     refine Xk rfl rfl rfl h127 rfl ?_
     refine Xl (v := .bool false) rfl h127 rfl rfl ?_
     refine Xh (v := .bool false) rfl rfl ?_
     exact Xa ⟨(congrArg Value.bool (by first | (simp only [h105, h122, h127, b0, b1, b2, b3, b4, b5, b6, b7, b8, b9]; done) | simp [h105, h122, h127])), (grown_trans hg120 hg125)⟩
   ·
    iterate 3 refine Xk rfl rfl rfl h122 rfl ?_
    refine Xl (v := .bool false) rfl h122 rfl rfl ?_
    refine Xc (v := .bool false) rfl rfl ?_
    iterate 3 refine Xk rfl rfl rfl rfl rfl ?_
    refine Yg rfl rfl rfl rfl ?_
    refine Yg rfl rfl rfl rfl ?_
    refine Xk rfl rfl rfl rfl rfl ?_
    refine Xk rfl rfl rfl rfl rfl ?_
    refine Xl (v := .bool false) rfl rfl rfl rfl ?_
    refine Xh (v := .bool false) rfl rfl ?_
    exact Xa ⟨(congrArg Value.bool (by first | (simp only [h105, h122, b0, b1, b2, b3, b4, b5, b6, b7, b8, b9]; done) | simp [h105, h122])), hg120⟩
  ·
   rintro f130 w131 ⟨e132, hg133⟩
   have hb134 := low0 hb104 hg133
   refine Xs ?_
   refine ⟨.bool ((inR r.th 1 8 && inR r.ve 0 5) && (!(r.wk && r.wr))), Yq rfl e132, ?_, hb134⟩
   exact congrArg Value.bool (Nd h105)
end Go.Proofs.YtfoplmgoiblkgaaDoor
end
section
namespace Go.Proofs.YtfoplmgoiblkgaaDoor
open Go.RowKit Go.Dw
set_option maxRecDepth 100000
set_option maxHeartbeats 4000000
set_option linter.unusedSimpArgs false
set_option linter.unusedVariables false
theorem Ka : elemSz Tryd.prog 40 = some 5 := by kernel_rfl
theorem T5 : elemSz Tryd.prog 53 = some 5 := by kernel_rfl
theorem Pd : fieldOff Tryd.prog 120 0 = some 0 := by kernel_rfl
theorem Rd : fieldOff Tryd.prog 120 1 = some 1 := by kernel_rfl
theorem Pw : fieldOff Tryd.prog 120 2 = some 2 := by kernel_rfl
theorem P0 : fieldOff Tryd.prog 120 3 = some 3 := by kernel_rfl
theorem Rf : fieldOff Tryd.prog 120 4 = some 4 := by kernel_rfl
theorem Jj : fieldOff Tryd.prog 37 2 = some 2 := by kernel_rfl
theorem T2 : goFn Tryd.prog 73 = true := by kernel_rfl
theorem M8 : goFn Tryd.prog 78 = true := by kernel_rfl
theorem Rl : mkTy Tryd.prog 40 = some (37, 5, 24, some (.agg #[.int .i64 0, .int .i64 0, .bool false, .bool false, .bool false])) := by kernel_rfl
theorem Ty : rowTy Tryd.prog 120 = some 5 := by kernel_rfl
theorem J3 : zeroTy Tryd.prog 37 = some (.agg #[.int .i64 0, .int .i64 0, .bool false, .bool false, .bool false]) := by kernel_rfl
theorem Nh (r : Rt) (w : World) : CallsR Tryd.prog 73 #[.agg #[.int .i64 r.th, .int .i64 r.ve, .bool r.rd, .bool r.wr, .bool r.wk]] w (fun v w' => v = .agg #[.int .i64 r.th, .int .i64 r.ve, .bool r.rd, .bool r.wr, .bool r.wk] ∧ w.grownBy w' none) := by
 refine X0 (n := 20) Tryd.func73 rfl Tryd.ntmps73 rfl ?_
 have hb0 := World.grownBy.refl w none
 refine Xb ?_
 refine Yu (v := .agg #[.int .i64 r.th, .int .i64 r.ve, .bool r.rd, .bool r.wr, .bool r.wk]) (cs := #[.int .i64 r.th, .int .i64 r.ve, .bool r.rd, .bool r.wr, .bool r.wk]) rfl rfl rfl ?_
 intro B101 w102 hN103
 have hlB101 := Yf hN103 hb0
 have hb104 := low0 hb0 hN103.grw
 refine Yj (cs := #[.int .i64 0, .int .i64 0, .bool false, .bool false, .bool false]) J3 rfl rfl ?_
 intro B105 w106 hN107
 have hlB105 := Yf hN107 hb104
 have lt_B101_B105 := Xq hN107 (hN103.blk).lt
 have hb108 := low0 hb104 hN107.grw
 refine Xa ?_
 refine Xb ?_
 refine Yj (cs := #[.int .i64 0, .int .i64 0, .bool false, .bool false, .bool false]) J3 rfl rfl ?_
 intro B109 w110 hN111
 have hlB109 := Yf hN111 hb108
 have k112 := (hN103.blk.grown0 hN107.grw)
 have lt_B101_B109 := Xq hN111 (k112).lt
 have lt_B105_B109 := Xq hN111 (hN107.blk).lt
 have hb113 := low0 hb108 hN111.grw
 refine Xa ?_
 refine Xb ?_
 refine Xd (o' := 0) Pd rfl rfl rfl ?_
 have k114 := (k112.grown0 hN111.grw)
 refine Xi (v := .int .i64 r.th) X3 rfl (k114.cell rfl) rfl ?_
 refine Xd (o' := 0) Yp rfl rfl rfl ?_
 refine Yc (v := .int .i64 r.th) (cs' := #[.int .i64 r.th, .int .i64 0, .bool false, .bool false, .bool false]) X3 rfl rfl rfl hN111.blk (Nat.le_of_ble_eq_true rfl) rfl ?_
 intro w115 hS116
 have hb117 := low1 hb113 hS116.grw (by omega)
 refine Xa ?_
 refine Xb ?_
 refine Xd (o' := 1) Rd rfl rfl rfl ?_
 have k118 := (k114.grown hS116.grw (Xf (by omega)))
 refine Xi (v := .int .i64 r.ve) X3 rfl (k118.cell rfl) rfl ?_
 refine Xd (o' := 1) Ql rfl rfl rfl ?_
 refine Yc (v := .int .i64 r.ve) (cs' := #[.int .i64 r.th, .int .i64 r.ve, .bool false, .bool false, .bool false]) X3 rfl rfl rfl hS116.blk (Nat.le_of_ble_eq_true rfl) rfl ?_
 intro w119 hS120
 have hb121 := low1 hb117 hS120.grw (by omega)
 refine Xa ?_
 refine Xb ?_
 refine Xd (o' := 2) Pw rfl rfl rfl ?_
 have k122 := (k118.grown hS120.grw (Xf (by omega)))
 refine Xi (v := .bool r.rd) Zv rfl (k122.cell rfl) rfl ?_
 refine Xd (o' := 2) Jj rfl rfl rfl ?_
 refine Yc (v := .bool r.rd) (cs' := #[.int .i64 r.th, .int .i64 r.ve, .bool r.rd, .bool false, .bool false]) Zv rfl rfl rfl hS120.blk (Nat.le_of_ble_eq_true rfl) rfl ?_
 intro w123 hS124
 have hb125 := low1 hb121 hS124.grw (by omega)
 refine Xa ?_
 refine Xb ?_
 refine Xd (o' := 3) P0 rfl rfl rfl ?_
 have k126 := (k122.grown hS124.grw (Xf (by omega)))
 refine Xi (v := .bool r.wr) Zv rfl (k126.cell rfl) rfl ?_
 refine Xd (o' := 3) Qv rfl rfl rfl ?_
 refine Yc (v := .bool r.wr) (cs' := #[.int .i64 r.th, .int .i64 r.ve, .bool r.rd, .bool r.wr, .bool false]) Zv rfl rfl rfl hS124.blk (Nat.le_of_ble_eq_true rfl) rfl ?_
 intro w127 hS128
 have hb129 := low1 hb125 hS128.grw (by omega)
 refine Xa ?_
 refine Xb ?_
 refine Xd (o' := 4) Rf rfl rfl rfl ?_
 have k130 := (k126.grown hS128.grw (Xf (by omega)))
 refine Xi (v := .bool r.wk) Zv rfl (k130.cell rfl) rfl ?_
 refine Xd (o' := 4) Kc rfl rfl rfl ?_
 refine Yc (v := .bool r.wk) (cs' := #[.int .i64 r.th, .int .i64 r.ve, .bool r.rd, .bool r.wr, .bool r.wk]) Zv rfl rfl rfl hS128.blk (Nat.le_of_ble_eq_true rfl) rfl ?_
 intro w131 hS132
 have hb133 := low1 hb129 hS132.grw (by omega)
 refine Xa ?_
 refine Xb ?_
 refine Xu (vs := [.int .i64 r.th, .int .i64 r.ve, .bool r.rd, .bool r.wr, .bool r.wk]) Y8 rfl rfl (hS132.blk.rangeL 0 5 rfl) rfl ?_
 have k134 := ((((((hN107.blk.grown0 hN111.grw).grown hS116.grw (Xf (by omega))).grown hS120.grw (Xf (by omega))).grown hS124.grw (Xf (by omega))).grown hS128.grw (Xf (by omega))).grown hS132.grw (Xf (by omega)))
 refine Xz (vs := [.int .i64 r.th, .int .i64 r.ve, .bool r.rd, .bool r.wr, .bool r.wk]) (cs' := #[.int .i64 r.th, .int .i64 r.ve, .bool r.rd, .bool r.wr, .bool r.wk]) Y8 rfl rfl rfl (by simp [Value.oneCell']) k134 (Nat.le_of_ble_eq_true rfl) rfl ?_
 intro w135 hS136
 have hb137 := low1 hb133 hS136.grw (by omega)
 refine Xa ?_
 refine Xs ?_
 refine ⟨.agg #[.int .i64 r.th, .int .i64 r.ve, .bool r.rd, .bool r.wr, .bool r.wk], Zx rfl (Yh (vs := [.int .i64 r.th, .int .i64 r.ve, .bool r.rd, .bool r.wr, .bool r.wk]) Y8 rfl rfl (hS136.blk.rangeL 0 5 rfl)), ?_, hb137⟩
 rfl
theorem Hx (m : Int) (w : World) (xs : List Rt) (a : Option Addr) (c : Nat) (hn : xs.length ≤ 9223372036854775807) (hm : 0 ≤ m ∧ m ≤ 1048576) : CallsR Tryd.prog 42 #[.slice a xs.length c, .int .i64 m] w (fun v w' => ∃ n : Int, v = .int .i64 n ∧ (0 ≤ n → (xs.length : Int) + n ≤ m) ∧ -1 ≤ n ∧ n ≤ m ∧ w.grownBy w' none) := by
 refine X0 (n := 12) Tryd.func42 rfl Tryd.ntmps42 rfl ?_
 have hb0 := World.grownBy.refl w none
 refine Xb ?_
 refine Xh (v := .int .i64 0) rfl rfl ?_
 refine Xa ?_
 refine Xb ?_
 refine Xc (v := .int .i64 m) rfl rfl ?_
 refine Xc (v := .slice a xs.length c) rfl rfl ?_
 refine Ym (by kernel_rfl) rfl rfl ?_
 refine Y3 (c := m - (xs.length : Int)) rfl rfl (by omega) (by omega) (by omega) rfl ?_
 refine Xh (v := .int .i64 (m - (xs.length : Int))) rfl rfl ?_
 refine Xa ?_
 refine Xt ?_
 refine Xb ?_
 refine Xc (v := .int .i64 (m - (xs.length : Int))) rfl rfl ?_
 refine Y4 (q := decide (m - (xs.length : Int) < 0)) rfl rfl rfl rfl ?_
 refine Xa ?_
 refine Xw rfl (fun h101 => ?_) (fun h101 => ?_)
 ·
  have h102 := of_decide_eq_true h101
  refine Xb ?_
  refine Xh (v := .int .i64 (-1)) rfl rfl ?_
  refine Xa ?_
  refine Xs ?_
  refine Yi ?_
  refine ⟨.int .i64 (-1), Yq rfl rfl, (-1), rfl, by omega, by omega, by omega, hb0⟩
 ·
  have h103 := of_decide_eq_false h101
  refine Xy ?_
  refine Xv ?_
  refine Xb ?_
  refine Xc (v := .int .i64 (m - (xs.length : Int))) rfl rfl ?_
  refine Xh (v := .int .i64 (m - (xs.length : Int))) rfl rfl ?_
  refine Xa ?_
  refine Xs ?_
  refine ⟨.int .i64 (m - (xs.length : Int)), Yq rfl rfl, (m - (xs.length : Int)), rfl, by omega, by omega, by omega, hb0⟩
theorem Lb (w : World) (xs : List Rt) (a : Option Addr) (c : Nat) (hs : SlAt w a 5 (xs.map Rt.cells)) (hn : xs.length ≤ 1048576) : CallsR Tryd.prog 50 #[.slice a xs.length c] w (fun v w' => ∃ B : Nat, v = .slice (some ⟨B, 0, none⟩) xs.length xs.length ∧ w.heap.size ≤ B ∧ Blk w' B 37 (xs.flatMap Rt.cells).toArray ∧ w.grownBy w' none) := by
 refine X0 (n := 23) Tryd.func50 rfl Tryd.ntmps50 rfl ?_
 have hb0 := World.grownBy.refl w none
 refine Xb ?_
 refine Xh (v := .slice none 0 0) rfl rfl ?_
 refine Xa ?_
 refine Xb ?_
 refine Xc (v := .slice a xs.length c) rfl rfl ?_
 refine Ym (by kernel_rfl) rfl rfl ?_
 refine Kz (g := Rt.cells) (z := Rt.zero) (c := xs.length) Rl rfl Zw (by omega) rfl rfl (by omega) (by omega) rfl ?_
 intro B101 w102 hN103
 have hlB101 := Yf hN103 hb0
 have hb104 := low0 hb0 hN103.grw
 refine Xh (v := .slice (some ⟨B101, 0, none⟩) xs.length xs.length) rfl rfl ?_
 refine Xa ?_
 refine Xt ?_
 refine Xb ?_
 refine Xh (v := .int .i64 0) rfl rfl ?_
 refine Xa ?_
 refine Ye ?_
 refine Zd (fun mm f' w' => ∃ (k : Nat), mm = xs.length - k ∧ k ≤ xs.length ∧ f' 4 = .int .i64 (k : Int) ∧ f' 0 = .slice a xs.length c ∧ f' 2 = .slice none 0 0 ∧ f' 3 = .slice (some ⟨B101, 0, none⟩) xs.length xs.length ∧ w.grownBy w' none ∧ Blk w' B101 37 ((fill xs Rt.zero k).flatMap Rt.cells).toArray) (xs.length - 0) ⟨0, rfl, (Nat.zero_le _), rfl, rfl, rfl, rfl, hb104, (by rw [Wh]; exact hN103.blk)⟩ ?_
 rintro mm f105 w106 ⟨k, hm108, hk, e109, e110, e111, e112, hb107, k113⟩
 refine Xt ?_
 refine Xb ?_
 refine Xc (v := .int .i64 (k : Int)) e109 rfl ?_
 refine Xc (v := .slice a xs.length c) e110 rfl ?_
 refine Ym (by kernel_rfl) rfl rfl ?_
 refine Y4 (q := decide ((k : Int) < (xs.length : Int))) rfl rfl rfl rfl ?_
 refine Xa ?_
 refine Xw rfl (fun h114 => ?_) (fun h114 => ?_)
 ·
  have h115 := of_decide_eq_true h114
  refine Xy ?_
  refine Xv ?_
  refine Xt ?_
  refine Ye ?_
  refine X1 ?_
  refine Xc (v := .slice (some ⟨B101, 0, none⟩) xs.length xs.length) e112 rfl ?_
  refine Xc (v := .int .i64 (k : Int)) e109 rfl ?_
  refine Xc (v := .slice a xs.length c) e110 rfl ?_
  refine Xc (v := .int .i64 (k : Int)) e109 rfl ?_
  obtain ⟨x116, hx117⟩ := Zf (l := xs) (i := k) (by omega)
  obtain ⟨b118, q119, o120, ha121, ho122, hr123⟩ := SlAt.at hs (Yn hx117)
  refine Yd T5 rfl rfl ha121 ho122 (by omega) (by omega) rfl ?_
  refine Xu (vs := [.int .i64 x116.th, .int .i64 x116.ve, .bool x116.rd, .bool x116.wr, .bool x116.wk]) Ty rfl rfl (Za (Yo hr123 hb107) 0 5 rfl) rfl ?_
  refine Xn (vs := [.agg #[.int .i64 x116.th, .int .i64 x116.ve, .bool x116.rd, .bool x116.wr, .bool x116.wk]]) T2 (Xg rfl Xm) rfl (Nh x116 _) ?_
  rintro _ w124 ⟨rfl, hg125⟩
  have hb126 := low0 hb107 hg125
  refine X8 (o' := k * 5) Ka rfl rfl (by omega) (by omega) (by omega) rfl ?_
  have k127 := (k113.grown0 hg125)
  refine Xz (vs := [.int .i64 x116.th, .int .i64 x116.ve, .bool x116.rd, .bool x116.wr, .bool x116.wk]) (cs' := (((fill xs Rt.zero k).set k x116).flatMap Rt.cells).toArray) Y8 rfl rfl rfl (by simp [Value.oneCell']) k127 (Ww Zw (by rw [Vj hk]; omega)) (Vt Zw (by rw [Vj hk]; omega) x116) ?_
  intro w128 hS129
  have hb130 := low1 hb126 hS129.grw (by omega)
  refine Xa ?_
  refine Yy ?_
  refine Xv ?_
  refine X1 ?_
  refine Xc (v := .int .i64 (k : Int)) e109 rfl ?_
  refine Yx (c := (k : Int) + 1) rfl rfl (by omega) (by omega) (by omega) rfl ?_
  refine Xh (v := .int .i64 ((k : Int) + 1)) rfl rfl ?_
  refine Xa ?_
  refine Xv ?_
  exact ⟨xs.length - (k + 1), by omega, (k + 1), rfl, (by omega), rfl, e110, e111, e112, hb130, (by have kk := hS129.blk; rw [Gx hx117] at kk; exact kk)⟩
 ·
  have h131 := of_decide_eq_false h114
  refine Y5 ?_
  refine Y2 ?_
  refine Y2 ?_
  refine Z1 ?_
  refine Xv ?_
  refine Xb ?_
  refine Xc (v := .slice (some ⟨B101, 0, none⟩) xs.length xs.length) e112 rfl ?_
  refine Xh (v := .slice (some ⟨B101, 0, none⟩) xs.length xs.length) rfl rfl ?_
  refine Xa ?_
  refine Xs ?_
  refine ⟨.slice (some ⟨B101, 0, none⟩) xs.length xs.length, Yq rfl rfl, B101, rfl, hlB101, ?_, hb107⟩
  have kk := k113
  rw [Gq (by omega)] at kk
  exact kk
theorem N0 (a b : Rt) (w : World) : CallsR Tryd.prog 78 #[.agg #[.int .i64 a.th, .int .i64 a.ve, .bool a.rd, .bool a.wr, .bool a.wk], .agg #[.int .i64 b.th, .int .i64 b.ve, .bool b.rd, .bool b.wr, .bool b.wk]] w (fun v w' => v = .bool (decide (a = b)) ∧ w.grownBy w' none) := by
 refine X0 (n := 30) Tryd.func78 rfl Tryd.ntmps78 rfl ?_
 have hb0 := World.grownBy.refl w none
 refine Xb ?_
 refine Yu (v := .agg #[.int .i64 a.th, .int .i64 a.ve, .bool a.rd, .bool a.wr, .bool a.wk]) (cs := #[.int .i64 a.th, .int .i64 a.ve, .bool a.rd, .bool a.wr, .bool a.wk]) rfl rfl rfl ?_
 intro B101 w102 hN103
 have hlB101 := Yf hN103 hb0
 have hb104 := low0 hb0 hN103.grw
 refine Yu (v := .agg #[.int .i64 b.th, .int .i64 b.ve, .bool b.rd, .bool b.wr, .bool b.wk]) (cs := #[.int .i64 b.th, .int .i64 b.ve, .bool b.rd, .bool b.wr, .bool b.wk]) rfl rfl rfl ?_
 intro B105 w106 hN107
 have hlB105 := Yf hN107 hb104
 have lt_B101_B105 := Xq hN107 (hN103.blk).lt
 have hb108 := low0 hb104 hN107.grw
 refine Xh (v := .bool false) rfl rfl ?_
 refine Xa ?_
 refine Xt ?_
 refine Xb ?_
 refine Xd (o' := 0) Yp rfl rfl rfl ?_
 have k109 := (hN103.blk.grown0 hN107.grw)
 refine Xi (v := .int .i64 a.th) X3 rfl (k109.cell rfl) rfl ?_
 refine Xd (o' := 0) Yp rfl rfl rfl ?_
 refine Xi (v := .int .i64 b.th) X3 rfl (hN107.blk.cell rfl) rfl ?_
 refine Y7 (q := !(decide (a.th = b.th))) rfl rfl rfl rfl ?_
 refine Xa ?_
 refine Xw rfl (fun h110 => ?_) (fun h110 => ?_)
 ·
  have h111 := Zn h110
  have h112 := of_decide_eq_false h111
  refine Xb ?_
  refine Xh (v := .bool false) rfl rfl ?_
  refine Xa ?_
  refine Xs ?_
  refine Yi ?_
  refine ⟨.bool false, Yq rfl rfl, ?_, hb108⟩
  obtain ⟨a1, a2, a3, a4, a5⟩ := a
  obtain ⟨b1, b2, b3, b4, b5⟩ := b
  simp_all
 ·
  have h113 := Zh h110
  have h114 := of_decide_eq_true h113
  refine Xy ?_
  refine Xv ?_
  refine Xt ?_
  refine Xb ?_
  refine Xd (o' := 1) Ql rfl rfl rfl ?_
  refine Xi (v := .int .i64 a.ve) X3 rfl (k109.cell rfl) rfl ?_
  refine Xd (o' := 1) Ql rfl rfl rfl ?_
  refine Xi (v := .int .i64 b.ve) X3 rfl (hN107.blk.cell rfl) rfl ?_
  refine Y7 (q := !(decide (a.ve = b.ve))) rfl rfl rfl rfl ?_
  refine Xa ?_
  refine Xw rfl (fun h115 => ?_) (fun h115 => ?_)
  ·
   have h116 := Zn h115
   have h117 := of_decide_eq_false h116
   refine Xb ?_
   refine Xh (v := .bool false) rfl rfl ?_
   refine Xa ?_
   refine Xs ?_
   refine Yi ?_
   refine ⟨.bool false, Yq rfl rfl, ?_, hb108⟩
   obtain ⟨a1, a2, a3, a4, a5⟩ := a
   obtain ⟨b1, b2, b3, b4, b5⟩ := b
   simp_all
  ·
   have h118 := Zh h115
   have h119 := of_decide_eq_true h118
   refine Xy ?_
   refine Xv ?_
   refine Xt ?_
   refine Xb ?_
   refine Xd (o' := 2) Jj rfl rfl rfl ?_
   refine Xi (v := .bool a.rd) Zv rfl (k109.cell rfl) rfl ?_
   refine Xd (o' := 2) Jj rfl rfl rfl ?_
   refine Xi (v := .bool b.rd) Zv rfl (hN107.blk.cell rfl) rfl ?_
   refine Ug (q := !(decide (a.rd = b.rd))) (by kernel_rfl) rfl rfl rfl rfl ?_
   refine Xa ?_
   refine Xw rfl (fun h120 => ?_) (fun h120 => ?_)
   ·
    have h121 := Zn h120
    have h122 := of_decide_eq_false h121
    refine Xb ?_
    refine Xh (v := .bool false) rfl rfl ?_
    refine Xa ?_
    refine Xs ?_
    refine Yi ?_
    refine ⟨.bool false, Yq rfl rfl, ?_, hb108⟩
    obtain ⟨a1, a2, a3, a4, a5⟩ := a
    obtain ⟨b1, b2, b3, b4, b5⟩ := b
    simp_all
   ·
    have h123 := Zh h120
    have h124 := of_decide_eq_true h123
    refine Xy ?_
    refine Xv ?_
    refine Xt ?_
    refine Xb ?_
    refine Xd (o' := 3) Qv rfl rfl rfl ?_
    refine Xi (v := .bool a.wr) Zv rfl (k109.cell rfl) rfl ?_
    refine Xd (o' := 3) Qv rfl rfl rfl ?_
    refine Xi (v := .bool b.wr) Zv rfl (hN107.blk.cell rfl) rfl ?_
    refine Ug (q := !(decide (a.wr = b.wr))) (by kernel_rfl) rfl rfl rfl rfl ?_
    refine Xa ?_
    refine Xw rfl (fun h125 => ?_) (fun h125 => ?_)
    ·
     have h126 := Zn h125
     have h127 := of_decide_eq_false h126
     refine Xb ?_
     refine Xh (v := .bool false) rfl rfl ?_
     refine Xa ?_
     refine Xs ?_
     refine Yi ?_
     refine ⟨.bool false, Yq rfl rfl, ?_, hb108⟩
     obtain ⟨a1, a2, a3, a4, a5⟩ := a
     obtain ⟨b1, b2, b3, b4, b5⟩ := b
     simp_all
    ·
     have h128 := Zh h125
     have h129 := of_decide_eq_true h128
     refine Xy ?_
     refine Xv ?_
     refine Xt ?_
     refine Xb ?_
     refine Xd (o' := 4) Kc rfl rfl rfl ?_
     refine Xi (v := .bool a.wk) Zv rfl (k109.cell rfl) rfl ?_
     refine Xd (o' := 4) Kc rfl rfl rfl ?_
     refine Xi (v := .bool b.wk) Zv rfl (hN107.blk.cell rfl) rfl ?_
     refine Ug (q := !(decide (a.wk = b.wk))) (by kernel_rfl) rfl rfl rfl rfl ?_
     refine Xa ?_
     refine Xw rfl (fun h130 => ?_) (fun h130 => ?_)
     ·
      have h131 := Zn h130
      have h132 := of_decide_eq_false h131
      refine Xb ?_
      refine Xh (v := .bool false) rfl rfl ?_
      refine Xa ?_
      refine Xs ?_
      refine Yi ?_
      refine ⟨.bool false, Yq rfl rfl, ?_, hb108⟩
      obtain ⟨a1, a2, a3, a4, a5⟩ := a
      obtain ⟨b1, b2, b3, b4, b5⟩ := b
      simp_all
     ·
      have h133 := Zh h130
      have h134 := of_decide_eq_true h133
      refine Xy ?_
      refine Xv ?_
      refine Xb ?_
      refine Xh (v := .bool true) rfl rfl ?_
      refine Xa ?_
      refine Xs ?_
      refine ⟨.bool true, Yq rfl rfl, ?_, hb108⟩
      obtain ⟨a1, a2, a3, a4, a5⟩ := a
      obtain ⟨b1, b2, b3, b4, b5⟩ := b
      simp_all
theorem Hm (w : World) (xs ys : List Rt) (a b : Option Addr) (c e : Nat) (hs : SlAt w a 5 (xs.map Rt.cells)) (ht : SlAt w b 5 (ys.map Rt.cells)) (hn : xs.length ≤ 1048576) (hm : ys.length ≤ 1048576) : CallsR Tryd.prog 60 #[.slice a xs.length c, .slice b ys.length e] w (fun v w' => v = .bool (decide (xs = ys)) ∧ w.grownBy w' none) := by
 refine X0 (n := 27) Tryd.func60 rfl Tryd.ntmps60 rfl ?_
 have hb0 := World.grownBy.refl w none
 refine Xb ?_
 refine Xh (v := .bool false) rfl rfl ?_
 refine Xa ?_
 refine Xt ?_
 refine Xb ?_
 refine Xc (v := .slice a xs.length c) rfl rfl ?_
 refine Ym (by kernel_rfl) rfl rfl ?_
 refine Xc (v := .slice b ys.length e) rfl rfl ?_
 refine Ym (by kernel_rfl) rfl rfl ?_
 refine Y7 (q := !(decide ((xs.length : Int) = (ys.length : Int)))) rfl rfl rfl rfl ?_
 refine Xa ?_
 refine Xw rfl (fun h101 => ?_) (fun h101 => ?_)
 ·
  have h102 := Zn h101
  have h103 := of_decide_eq_false h102
  refine Xb ?_
  refine Xh (v := .bool false) rfl rfl ?_
  refine Xa ?_
  refine Xs ?_
  refine Yi ?_
  refine ⟨.bool false, Yq rfl rfl, ?_, hb0⟩
  exact congrArg Value.bool (decide_eq_false (fun h => by have := congrArg List.length h; omega)).symm
 ·
  have h104 := Zh h101
  have h105 := of_decide_eq_true h104
  refine Xy ?_
  refine Xv ?_
  refine Xt ?_
  refine Xb ?_
  refine Xh (v := .int .i64 0) rfl rfl ?_
  refine Xa ?_
  refine Ye ?_
  refine Zd (fun mm f' w' => ∃ (k : Nat), mm = xs.length - k ∧ k ≤ xs.length ∧ xs.take k = ys.take k ∧ f' 5 = .int .i64 (k : Int) ∧ f' 0 = .slice a xs.length c ∧ f' 1 = .slice b ys.length e ∧ w.grownBy w' none) (xs.length - 0) ⟨0, rfl, (Nat.zero_le _), rfl, rfl, rfl, rfl, hb0⟩ ?_
  rintro mm f106 w107 ⟨k, hm109, hk, ha, e110, e111, e112, hb108⟩
  refine Xt ?_
  refine Xb ?_
  refine Xc (v := .int .i64 (k : Int)) e110 rfl ?_
  refine Xc (v := .slice a xs.length c) e111 rfl ?_
  refine Ym (by kernel_rfl) rfl rfl ?_
  refine Y4 (q := decide ((k : Int) < (xs.length : Int))) rfl rfl rfl rfl ?_
  refine Xa ?_
  refine Xw rfl (fun h113 => ?_) (fun h113 => ?_)
  ·
   have h114 := of_decide_eq_true h113
   refine Xy ?_
   refine Xv ?_
   refine Xt ?_
   refine Ye ?_
   refine Xt ?_
   obtain ⟨x153, hx154⟩ := Zf (l := xs) (i := k) (by omega)
   obtain ⟨b155, q156, o157, ha158, ho159, hr160⟩ := SlAt.at hs (Yn hx154)
   obtain ⟨x161, hx162⟩ := Zf (l := ys) (i := k) (by omega)
   obtain ⟨b163, q164, o165, ha166, ho167, hr168⟩ := SlAt.at ht (Yn hx162)
   refine Ze (m := 8) (vals := [(17, .slice a xs.length c), (18, .int .i64 (k : Int)), (19, .pointer (some ⟨b155, o157, none⟩)), (20, .agg #[.int .i64 x153.th, .int .i64 x153.ve, .bool x153.rd, .bool x153.wr, .bool x153.wk]), (21, .slice b ys.length e), (22, .int .i64 (k : Int)), (23, .pointer (some ⟨b163, o165, none⟩)), (24, .agg #[.int .i64 x161.th, .int .i64 x161.ve, .bool x161.rd, .bool x161.wr, .bool x161.wk])]) (fun w' => w107.grownBy w' none) Zi (by kernel_rfl) (Yl _) ?_ ?_
   ·
    refine Xj rfl (fun w172 hi173 => ?_) ?_
    ·
     have hb174 := low0 hb108 hi173
     refine Xc (v := .slice a xs.length c) e111 rfl ?_
     exact Xa ⟨rfl, hi173⟩
    refine Xj rfl (fun w175 hi176 => ?_) ?_
    ·
     have hb177 := low0 hb108 hi176
     refine Xc (v := .int .i64 (k : Int)) e110 rfl ?_
     exact Xa ⟨rfl, hi176⟩
    refine Xj rfl (fun w178 hi179 => ?_) ?_
    ·
     have hb180 := low0 hb108 hi179
     refine Yd Ka rfl rfl ha158 ho159 (by omega) (by omega) rfl ?_
     exact Xa ⟨rfl, hi179⟩
    refine Xj rfl (fun w181 hi182 => ?_) ?_
    ·
     have hb183 := low0 hb108 hi182
     refine Xu (vs := [.int .i64 x153.th, .int .i64 x153.ve, .bool x153.rd, .bool x153.wr, .bool x153.wk]) Y8 rfl rfl (Za (Yo hr160 hb183) 0 5 rfl) rfl ?_
     exact Xa ⟨rfl, hi182⟩
    refine Xj rfl (fun w184 hi185 => ?_) ?_
    ·
     have hb186 := low0 hb108 hi185
     refine Xc (v := .slice b ys.length e) e112 rfl ?_
     exact Xa ⟨rfl, hi185⟩
    refine Xj rfl (fun w187 hi188 => ?_) ?_
    ·
     have hb189 := low0 hb108 hi188
     refine Xc (v := .int .i64 (k : Int)) e110 rfl ?_
     exact Xa ⟨rfl, hi188⟩
    refine Xj rfl (fun w190 hi191 => ?_) ?_
    ·
     have hb192 := low0 hb108 hi191
     refine Yd Ka rfl rfl ha166 ho167 (by omega) (by omega) rfl ?_
     exact Xa ⟨rfl, hi191⟩
    refine Xj rfl (fun w193 hi194 => ?_) ?_
    ·
     have hb195 := low0 hb108 hi194
     refine Xu (vs := [.int .i64 x161.th, .int .i64 x161.ve, .bool x161.rd, .bool x161.wr, .bool x161.wk]) Y8 rfl rfl (Za (Yo hr168 hb195) 0 5 rfl) rfl ?_
     exact Xa ⟨rfl, hi194⟩
    exact Zj
   ·
    intro w196 hi197
    have hb198 := low0 hb108 hi197
    refine Xn (vs := [.agg #[.int .i64 x153.th, .int .i64 x153.ve, .bool x153.rd, .bool x153.wr, .bool x153.wk], .agg #[.int .i64 x161.th, .int .i64 x161.ve, .bool x161.rd, .bool x161.wr, .bool x161.wk]]) M8 (Xg rfl (Xg rfl Xm)) rfl (N0 x153 x161 _) ?_
    rintro _ w199 ⟨rfl, hg200⟩
    have hb201 := low0 hb198 hg200
    refine Yk (b' := !(decide (x153 = x161))) rfl rfl rfl ?_
    refine Xa ?_
    refine Xv ?_
    refine Xw rfl (fun h202 => ?_) (fun h202 => ?_)
    ·
     have h203 := Zn h202
     have h204 := of_decide_eq_false h203
     refine Xb ?_
     refine Xh (v := .bool false) rfl rfl ?_
     refine Xa ?_
     refine Xs ?_
     refine Y6 ?_
     refine Yi ?_
     refine Yi ?_
     refine Y6 ?_
     refine Yi ?_
     refine ⟨.bool false, Yq rfl rfl, ?_, hb201⟩
     exact congrArg Value.bool (decide_eq_false (Ul hx154 hx162 (of_decide_eq_false h203))).symm
    ·
     have h205 := Zh h202
     have h206 := of_decide_eq_true h205
     refine Xy ?_
     refine Yy ?_
     refine Xv ?_
     refine X1 ?_
     refine Xc (v := .int .i64 (k : Int)) e110 rfl ?_
     refine Yx (c := (k : Int) + 1) rfl rfl (by omega) (by omega) (by omega) rfl ?_
     refine Xh (v := .int .i64 ((k : Int) + 1)) rfl rfl ?_
     refine Xa ?_
     refine Xv ?_
     exact ⟨xs.length - (k + 1), by omega, (k + 1), rfl, (by omega), (Kp ha hx154 hx162 (of_decide_eq_true h205)), rfl, e111, e112, hb201⟩
  ·
   have h207 := of_decide_eq_false h113
   refine Y5 ?_
   refine Y2 ?_
   refine Y2 ?_
   refine Z1 ?_
   refine Xv ?_
   refine Xb ?_
   refine Xh (v := .bool true) rfl rfl ?_
   refine Xa ?_
   refine Xs ?_
   refine ⟨.bool true, Yq rfl rfl, ?_, hb108⟩
   exact congrArg Value.bool (decide_eq_true (Vd ha (by omega) (by omega))).symm
end Go.Proofs.YtfoplmgoiblkgaaDoor
end
section
namespace Go.Proofs.YtfoplmgoiblkgaaDoor
open Go.RowKit Go.Dw
set_option maxRecDepth 100000
set_option maxHeartbeats 4000000
set_option linter.unusedSimpArgs false
set_option linter.unusedVariables false
theorem P6 : elemSz Tryd.prog 33 = some 1 := by kernel_rfl
theorem Qa : elemSz Tryd.prog 41 = some 1 := by kernel_rfl
theorem Jq : fieldOff Tryd.prog 108 0 = some 0 := by kernel_rfl
theorem Um : fieldOff Tryd.prog 108 1 = some 1 := by kernel_rfl
theorem Y1 : goFn Tryd.prog 63 = true := by kernel_rfl
theorem V2 : oneTy Tryd.prog 33 = true := by kernel_rfl
theorem Tj : oneTy Tryd.prog 5 = true := by kernel_rfl
theorem Yr (p n : Int) (hp : 0 ≤ p ∧ p ≤ 1099511627776) (lo R : Nat) (bs : List Int) (a : Option Addr) (c : Nat) (w : World) (hR : Blk w R 108 #[.slice a bs.length c, .int .i64 p]) (hlo : lo ≤ R) (hs : SlLt lo w a 1 (bs.map bcell)) (hb : ∀ b ∈ bs, 0 ≤ b ∧ b ≤ 255) (hn : bs.length ≤ 1048576) : CallsR Tryd.prog 63 #[.pointer (some ⟨R, 0, none⟩), .int .i64 n] w (fun v w' => ∃ k : Int, v = .int .i64 k ∧ 0 ≤ k ∧ (k < n ∨ k = 0) ∧ Blk w' R 108 #[.slice a bs.length c, .int .i64 (p + 1)] ∧ w.grownBy w' (some R)) := by
 refine X0 (n := 99) Tryd.func63 rfl Tryd.ntmps63 rfl ?_
 have hb0 := World.grownBy.refl w (some R)
 have hRlt := hR.lt
 refine Xb ?_
 refine Xh (v := .int .i64 0) rfl rfl ?_
 refine Xa ?_
 refine Xb ?_
 refine Xc (v := .pointer (some ⟨R, 0, none⟩)) rfl rfl ?_
 refine Xc (v := .pointer (some ⟨R, 0, none⟩)) rfl rfl ?_
 refine Zu rfl rfl ?_
 refine Xd (o' := 1) Um rfl rfl rfl ?_
 refine Xi (v := .int .i64 p) X3 rfl (hR.cell rfl) rfl ?_
 refine Yx (c := p + 1) rfl rfl (by omega) (by omega) (by omega) rfl ?_
 refine Zu rfl rfl ?_
 refine Xd (o' := 1) Um rfl rfl rfl ?_
 refine Yc (v := .int .i64 (p + 1)) (cs' := #[.slice a bs.length c, .int .i64 (p + 1)]) X3 rfl rfl rfl hR (Nat.le_of_ble_eq_true rfl) rfl ?_
 intro w101 hS102
 have hb103 := grown_trans hb0 hS102.grw
 refine Xa ?_
 refine Xt ?_
 refine X2 (fun f' w' => (f' 0 = .pointer (some ⟨R, 0, none⟩) ∧ f' 1 = .int .i64 n ∧ f' 4 = .int .i64 0 ∧ f' 24 = .bool ((decide (n < 1)) || (decide ((bs.length : Int) = 0)))) ∧ w101 = w') ?_ ?_
 ·
  refine Xc (v := .int .i64 n) rfl rfl ?_
  refine Y4 (q := decide (n < 1)) rfl rfl rfl rfl ?_
  refine Xc (v := .bool (decide (n < 1))) rfl rfl ?_
  rcases Yb (decide (n < 1)) with h104 | h104
  ·
   have h105 := of_decide_eq_true h104
   iterate 6 refine Xk rfl rfl rfl h104 rfl ?_
   refine Xr (v := .bool true) rfl h104 rfl rfl ?_
   exact Xa ⟨⟨rfl, rfl, rfl, (congrArg Value.bool (by first | (simp only [h104, b0, b1, b2, b3, b4, b5, b6, b7, b8, b9]; done) | simp [h104]))⟩, rfl⟩
  ·
   have h106 := of_decide_eq_false h104
   refine Xe rfl rfl rfl h104 ?_
   refine Xc (v := .pointer (some ⟨R, 0, none⟩)) rfl rfl ?_
   refine Xe rfl rfl rfl h104 ?_
   refine Zu rfl rfl ?_
   refine Xe rfl rfl rfl h104 ?_
   refine Xd (o' := 0) Jq rfl rfl rfl ?_
   refine Xe rfl rfl rfl h104 ?_
   refine Xi (v := .slice a bs.length c) V2 rfl (hS102.blk.cell rfl) rfl ?_
   refine Xe rfl rfl rfl h104 ?_
   refine Ym (by kernel_rfl) rfl rfl ?_
   refine Xe rfl rfl rfl h104 ?_
   refine X4 (q := decide ((bs.length : Int) = 0)) rfl rfl rfl rfl ?_
   refine Xl (v := .bool (decide ((bs.length : Int) = 0))) rfl h104 rfl rfl ?_
   exact Xa ⟨⟨rfl, rfl, rfl, (congrArg Value.bool (by first | (simp only [h104, b0, b1, b2, b3, b4, b5, b6, b7, b8, b9]; done) | simp [h104]))⟩, rfl⟩
 ·
  rintro f107 w108 ⟨⟨e109, e110, e111, e112⟩, rfl⟩
  refine Xw e112 (fun h113 => ?_) (fun h113 => ?_)
  ·
   refine Xb ?_
   refine Xh (v := .int .i64 0) rfl rfl ?_
   refine Xa ?_
   refine Xs ?_
   refine Yi ?_
   refine ⟨.int .i64 0, Yq rfl rfl, 0, rfl, by omega, by omega, hS102.blk, hb103⟩
  ·
   have h114 := Qx h113
   have h115 := of_decide_eq_false h114
   have h116 := Qy h113
   have h117 := of_decide_eq_false h116
   refine Xy ?_
   refine Xv ?_
   refine Xb ?_
   refine Xc (v := .pointer (some ⟨R, 0, none⟩)) e109 rfl ?_
   refine Zu rfl rfl ?_
   refine Xd (o' := 1) Um rfl rfl rfl ?_
   refine Xi (v := .int .i64 (p + 1)) X3 rfl (hS102.blk.cell rfl) rfl ?_
   refine Y3 (c := (p + 1) - 1) rfl rfl (by omega) (by omega) (by omega) rfl ?_
   refine Xh (v := .int .i64 ((p + 1) - 1)) rfl rfl ?_
   refine Xa ?_
   refine Xt ?_
   refine Xb ?_
   refine Xc (v := .int .i64 ((p + 1) - 1)) rfl rfl ?_
   refine Xc (v := .pointer (some ⟨R, 0, none⟩)) e109 rfl ?_
   refine Zu rfl rfl ?_
   refine Xd (o' := 0) Jq rfl rfl rfl ?_
   refine Xi (v := .slice a bs.length c) V2 rfl (hS102.blk.cell rfl) rfl ?_
   refine Ym (by kernel_rfl) rfl rfl ?_
   refine Y4 (q := decide ((p + 1) - 1 < (bs.length : Int))) rfl rfl rfl rfl ?_
   refine Xa ?_
   refine Xw rfl (fun h118 => ?_) (fun h118 => ?_)
   ·
    have h119 := of_decide_eq_true h118
    refine Xb ?_
    refine Xc (v := .pointer (some ⟨R, 0, none⟩)) e109 rfl ?_
    refine Zu rfl rfl ?_
    refine Xd (o' := 0) Jq rfl rfl rfl ?_
    refine Xi (v := .slice a bs.length c) V2 rfl (hS102.blk.cell rfl) rfl ?_
    refine Xc (v := .int .i64 ((p + 1) - 1)) rfl rfl ?_
    obtain ⟨x120, hx121⟩ := Zf (l := bs) (i := ((p + 1) - 1).toNat) (by omega)
    obtain ⟨b122, q123, o124, ha125, ho126, hne128, hr127⟩ := SlLt.at hs (Yn hx121)
    have hbd129 := hb x120 (List.mem_of_getElem? hx121)
    refine Yd P6 rfl rfl ha125 ho126 (by omega) (by omega) rfl ?_
    refine Xi (v := .int .u8 x120) Tj rfl ((Z7 hr127 hb103 (Xf (by omega))) 0 _ rfl) rfl ?_
    refine Kw (P := Tryd.prog) (k' := .i64) rfl (by kernel_rfl) (by kernel_rfl) (Up (by omega) (by omega)) rfl ?_
    refine Xc (v := .int .i64 n) e110 rfl ?_
    have hr130 := Int.emod_nonneg x120 (show n ≠ 0 by omega)
    have hr131 := Int.emod_lt_of_pos x120 (show 0 < n by omega)
    refine Kj (c := x120 % n) rfl rfl (by omega) (by omega) (by omega) rfl rfl ?_
    refine Xh (v := .int .i64 (x120 % n)) rfl rfl ?_
    refine Xa ?_
    refine Xs ?_
    refine Yi ?_
    refine ⟨.int .i64 (x120 % n), Yq rfl rfl, (x120 % n), rfl, by omega, by omega, hS102.blk, hb103⟩
   ·
    have h132 := of_decide_eq_false h118
    refine Xy ?_
    refine Xv ?_
    refine Xt ?_
    have hr185 := Int.emod_nonneg ((p + 1) - 1) (show (bs.length : Int) ≠ 0 by omega)
    have hr186 := Int.emod_lt_of_pos ((p + 1) - 1) (show 0 < (bs.length : Int) by omega)
    obtain ⟨x189, hx190⟩ := Zf (l := bs) (i := (((p + 1) - 1) % (bs.length : Int)).toNat) (by omega)
    obtain ⟨b191, q192, o193, ha194, ho195, hne197, hr196⟩ := SlLt.at hs (Yn hx190)
    have hbd198 := hb x189 (List.mem_of_getElem? hx190)
    have hr199 := Int.emod_nonneg (((p + 1) - 1) * 7 + 3) (show (bs.length : Int) ≠ 0 by omega)
    have hr200 := Int.emod_lt_of_pos (((p + 1) - 1) * 7 + 3) (show 0 < (bs.length : Int) by omega)
    obtain ⟨x203, hx204⟩ := Zf (l := bs) (i := ((((p + 1) - 1) * 7 + 3) % (bs.length : Int)).toNat) (by omega)
    obtain ⟨b205, q206, o207, ha208, ho209, hne211, hr210⟩ := SlLt.at hs (Yn hx204)
    have hbd212 := hb x203 (List.mem_of_getElem? hx204)
    have hr213 := Int.ediv_nonneg (show 0 ≤ ((p + 1) - 1) by omega) (show 0 ≤ (bs.length : Int) by omega)
    have hr214 := Int.ediv_le_self (bs.length : Int) (show 0 ≤ ((p + 1) - 1) by omega)
    refine Ze (m := 44) (vals := [(47, .pointer (some ⟨R, 0, none⟩)), (48, .pointer (some ⟨R, 0, none⟩)), (49, .pointer (some ⟨R, 0, none⟩)), (50, .slice a bs.length c), (51, .int .i64 ((p + 1) - 1)), (52, .pointer (some ⟨R, 0, none⟩)), (53, .pointer (some ⟨R, 0, none⟩)), (54, .pointer (some ⟨R, 0, none⟩)), (55, .slice a bs.length c), (56, .int .i64 (bs.length : Int)), (57, .int .i64 (((p + 1) - 1) % (bs.length : Int))), (58, .pointer (some ⟨b191, o193, none⟩)), (59, .int .u8 x189), (60, .int .i64 x189), (61, .int .i64 (x189 * 131)), (62, .pointer (some ⟨R, 0, none⟩)), (63, .pointer (some ⟨R, 0, none⟩)), (64, .pointer (some ⟨R, 0, none⟩)), (65, .slice a bs.length c), (66, .int .i64 ((p + 1) - 1)), (67, .int .i64 (((p + 1) - 1) * 7)), (68, .int .i64 (((p + 1) - 1) * 7 + 3)), (69, .pointer (some ⟨R, 0, none⟩)), (70, .pointer (some ⟨R, 0, none⟩)), (71, .pointer (some ⟨R, 0, none⟩)), (72, .slice a bs.length c), (73, .int .i64 (bs.length : Int)), (74, .int .i64 ((((p + 1) - 1) * 7 + 3) % (bs.length : Int))), (75, .pointer (some ⟨b205, o207, none⟩)), (76, .int .u8 x203), (77, .int .i64 x203), (78, .int .i64 (x203 * 1117)), (79, .int .i64 (x189 * 131 + (x203 * 1117))), (80, .int .i64 ((p + 1) - 1)), (81, .int .i64 (((p + 1) - 1) * 29)), (82, .int .i64 (x189 * 131 + (x203 * 1117) + (((p + 1) - 1) * 29))), (83, .int .i64 ((p + 1) - 1)), (84, .pointer (some ⟨R, 0, none⟩)), (85, .pointer (some ⟨R, 0, none⟩)), (86, .pointer (some ⟨R, 0, none⟩)), (87, .slice a bs.length c), (88, .int .i64 (bs.length : Int)), (89, .int .i64 (((p + 1) - 1) / (bs.length : Int))), (90, .int .i64 ((((p + 1) - 1) / (bs.length : Int)) * 53))]) (fun w' => w101.grownBy w' none) Zi (by kernel_rfl) (Yl _) ?_ ?_
    ·
     refine Xj rfl (fun w217 hi218 => ?_) ?_
     ·
      have hb219 := low0 hb103 hi218
      refine Xc (v := .pointer (some ⟨R, 0, none⟩)) e109 rfl ?_
      exact Xa ⟨rfl, hi218⟩
     refine Xj rfl (fun w220 hi221 => ?_) ?_
     ·
      have hb222 := low0 hb103 hi221
      refine Zu rfl rfl ?_
      exact Xa ⟨rfl, hi221⟩
     refine Xj rfl (fun w223 hi224 => ?_) ?_
     ·
      have hb225 := low0 hb103 hi224
      refine Xd (o' := 0) Jq rfl rfl rfl ?_
      exact Xa ⟨rfl, hi224⟩
     refine Xj rfl (fun w226 hi227 => ?_) ?_
     ·
      have hb228 := low0 hb103 hi227
      have k229 := (hS102.blk.grown0 hi227)
      refine Xi (v := .slice a bs.length c) V2 rfl (k229.cell rfl) rfl ?_
      exact Xa ⟨rfl, hi227⟩
     refine Xj rfl (fun w230 hi231 => ?_) ?_
     ·
      have hb232 := low0 hb103 hi231
      refine Xc (v := .int .i64 ((p + 1) - 1)) rfl rfl ?_
      exact Xa ⟨rfl, hi231⟩
     refine Xj rfl (fun w233 hi234 => ?_) ?_
     ·
      have hb235 := low0 hb103 hi234
      refine Xc (v := .pointer (some ⟨R, 0, none⟩)) e109 rfl ?_
      exact Xa ⟨rfl, hi234⟩
     refine Xj rfl (fun w236 hi237 => ?_) ?_
     ·
      have hb238 := low0 hb103 hi237
      refine Zu rfl rfl ?_
      exact Xa ⟨rfl, hi237⟩
     refine Xj rfl (fun w239 hi240 => ?_) ?_
     ·
      have hb241 := low0 hb103 hi240
      refine Xd (o' := 0) Jq rfl rfl rfl ?_
      exact Xa ⟨rfl, hi240⟩
     refine Xj rfl (fun w242 hi243 => ?_) ?_
     ·
      have hb244 := low0 hb103 hi243
      have k245 := (hS102.blk.grown0 hi243)
      refine Xi (v := .slice a bs.length c) V2 rfl (k245.cell rfl) rfl ?_
      exact Xa ⟨rfl, hi243⟩
     refine Xj rfl (fun w246 hi247 => ?_) ?_
     ·
      have hb248 := low0 hb103 hi247
      refine Ym (by kernel_rfl) rfl rfl ?_
      exact Xa ⟨rfl, hi247⟩
     refine Xj rfl (fun w249 hi250 => ?_) ?_
     ·
      have hb251 := low0 hb103 hi250
      refine Kj (c := ((p + 1) - 1) % (bs.length : Int)) rfl rfl (by omega) (by omega) (by omega) rfl rfl ?_
      exact Xa ⟨rfl, hi250⟩
     refine Xj rfl (fun w252 hi253 => ?_) ?_
     ·
      have hb254 := low0 hb103 hi253
      refine Yd P6 rfl rfl ha194 ho195 (by omega) (by omega) rfl ?_
      exact Xa ⟨rfl, hi253⟩
     refine Xj rfl (fun w255 hi256 => ?_) ?_
     ·
      have hb257 := low0 hb103 hi256
      refine Xi (v := .int .u8 x189) Tj rfl ((Z7 hr196 hb257 (Xf (by omega))) 0 _ rfl) rfl ?_
      exact Xa ⟨rfl, hi256⟩
     refine Xj rfl (fun w258 hi259 => ?_) ?_
     ·
      have hb260 := low0 hb103 hi259
      refine Kw (P := Tryd.prog) (k' := .i64) rfl (by kernel_rfl) (by kernel_rfl) (Up (by omega) (by omega)) rfl ?_
      exact Xa ⟨rfl, hi259⟩
     refine Xj rfl (fun w261 hi262 => ?_) ?_
     ·
      have hb263 := low0 hb103 hi262
      refine Vm (c := x189 * 131) rfl rfl rfl (by omega) (by omega) rfl ?_
      exact Xa ⟨rfl, hi262⟩
     refine Xj rfl (fun w264 hi265 => ?_) ?_
     ·
      have hb266 := low0 hb103 hi265
      refine Xc (v := .pointer (some ⟨R, 0, none⟩)) e109 rfl ?_
      exact Xa ⟨rfl, hi265⟩
     refine Xj rfl (fun w267 hi268 => ?_) ?_
     ·
      have hb269 := low0 hb103 hi268
      refine Zu rfl rfl ?_
      exact Xa ⟨rfl, hi268⟩
     refine Xj rfl (fun w270 hi271 => ?_) ?_
     ·
      have hb272 := low0 hb103 hi271
      refine Xd (o' := 0) Jq rfl rfl rfl ?_
      exact Xa ⟨rfl, hi271⟩
     refine Xj rfl (fun w273 hi274 => ?_) ?_
     ·
      have hb275 := low0 hb103 hi274
      have k276 := (hS102.blk.grown0 hi274)
      refine Xi (v := .slice a bs.length c) V2 rfl (k276.cell rfl) rfl ?_
      exact Xa ⟨rfl, hi274⟩
     refine Xj rfl (fun w277 hi278 => ?_) ?_
     ·
      have hb279 := low0 hb103 hi278
      refine Xc (v := .int .i64 ((p + 1) - 1)) rfl rfl ?_
      exact Xa ⟨rfl, hi278⟩
     refine Xj rfl (fun w280 hi281 => ?_) ?_
     ·
      have hb282 := low0 hb103 hi281
      refine Vm (c := ((p + 1) - 1) * 7) rfl rfl rfl (by omega) (by omega) rfl ?_
      exact Xa ⟨rfl, hi281⟩
     refine Xj rfl (fun w283 hi284 => ?_) ?_
     ·
      have hb285 := low0 hb103 hi284
      refine Yx (c := ((p + 1) - 1) * 7 + 3) rfl rfl (by omega) (by omega) (by omega) rfl ?_
      exact Xa ⟨rfl, hi284⟩
     refine Xj rfl (fun w286 hi287 => ?_) ?_
     ·
      have hb288 := low0 hb103 hi287
      refine Xc (v := .pointer (some ⟨R, 0, none⟩)) e109 rfl ?_
      exact Xa ⟨rfl, hi287⟩
     refine Xj rfl (fun w289 hi290 => ?_) ?_
     ·
      have hb291 := low0 hb103 hi290
      refine Zu rfl rfl ?_
      exact Xa ⟨rfl, hi290⟩
     refine Xj rfl (fun w292 hi293 => ?_) ?_
     ·
      have hb294 := low0 hb103 hi293
      refine Xd (o' := 0) Jq rfl rfl rfl ?_
      exact Xa ⟨rfl, hi293⟩
     refine Xj rfl (fun w295 hi296 => ?_) ?_
     ·
      have hb297 := low0 hb103 hi296
      have k298 := (hS102.blk.grown0 hi296)
      refine Xi (v := .slice a bs.length c) V2 rfl (k298.cell rfl) rfl ?_
      exact Xa ⟨rfl, hi296⟩
     refine Xj rfl (fun w299 hi300 => ?_) ?_
     ·
      have hb301 := low0 hb103 hi300
      refine Ym (by kernel_rfl) rfl rfl ?_
      exact Xa ⟨rfl, hi300⟩
     refine Xj rfl (fun w302 hi303 => ?_) ?_
     ·
      have hb304 := low0 hb103 hi303
      refine Kj (c := (((p + 1) - 1) * 7 + 3) % (bs.length : Int)) rfl rfl (by omega) (by omega) (by omega) rfl rfl ?_
      exact Xa ⟨rfl, hi303⟩
     refine Xj rfl (fun w305 hi306 => ?_) ?_
     ·
      have hb307 := low0 hb103 hi306
      refine Yd P6 rfl rfl ha208 ho209 (by omega) (by omega) rfl ?_
      exact Xa ⟨rfl, hi306⟩
     refine Xj rfl (fun w308 hi309 => ?_) ?_
     ·
      have hb310 := low0 hb103 hi309
      refine Xi (v := .int .u8 x203) Tj rfl ((Z7 hr210 hb310 (Xf (by omega))) 0 _ rfl) rfl ?_
      exact Xa ⟨rfl, hi309⟩
     refine Xj rfl (fun w311 hi312 => ?_) ?_
     ·
      have hb313 := low0 hb103 hi312
      refine Kw (P := Tryd.prog) (k' := .i64) rfl (by kernel_rfl) (by kernel_rfl) (Up (by omega) (by omega)) rfl ?_
      exact Xa ⟨rfl, hi312⟩
     refine Xj rfl (fun w314 hi315 => ?_) ?_
     ·
      have hb316 := low0 hb103 hi315
      refine Vm (c := x203 * 1117) rfl rfl rfl (by omega) (by omega) rfl ?_
      exact Xa ⟨rfl, hi315⟩
     refine Xj rfl (fun w317 hi318 => ?_) ?_
     ·
      have hb319 := low0 hb103 hi318
      refine Yx (c := x189 * 131 + (x203 * 1117)) rfl rfl (by omega) (by omega) (by omega) rfl ?_
      exact Xa ⟨rfl, hi318⟩
     refine Xj rfl (fun w320 hi321 => ?_) ?_
     ·
      have hb322 := low0 hb103 hi321
      refine Xc (v := .int .i64 ((p + 1) - 1)) rfl rfl ?_
      exact Xa ⟨rfl, hi321⟩
     refine Xj rfl (fun w323 hi324 => ?_) ?_
     ·
      have hb325 := low0 hb103 hi324
      refine Vm (c := ((p + 1) - 1) * 29) rfl rfl rfl (by omega) (by omega) rfl ?_
      exact Xa ⟨rfl, hi324⟩
     refine Xj rfl (fun w326 hi327 => ?_) ?_
     ·
      have hb328 := low0 hb103 hi327
      refine Yx (c := x189 * 131 + (x203 * 1117) + (((p + 1) - 1) * 29)) rfl rfl (by omega) (by omega) (by omega) rfl ?_
      exact Xa ⟨rfl, hi327⟩
     refine Xj rfl (fun w329 hi330 => ?_) ?_
     ·
      have hb331 := low0 hb103 hi330
      refine Xc (v := .int .i64 ((p + 1) - 1)) rfl rfl ?_
      exact Xa ⟨rfl, hi330⟩
     refine Xj rfl (fun w332 hi333 => ?_) ?_
     ·
      have hb334 := low0 hb103 hi333
      refine Xc (v := .pointer (some ⟨R, 0, none⟩)) e109 rfl ?_
      exact Xa ⟨rfl, hi333⟩
     refine Xj rfl (fun w335 hi336 => ?_) ?_
     ·
      have hb337 := low0 hb103 hi336
      refine Zu rfl rfl ?_
      exact Xa ⟨rfl, hi336⟩
     refine Xj rfl (fun w338 hi339 => ?_) ?_
     ·
      have hb340 := low0 hb103 hi339
      refine Xd (o' := 0) Jq rfl rfl rfl ?_
      exact Xa ⟨rfl, hi339⟩
     refine Xj rfl (fun w341 hi342 => ?_) ?_
     ·
      have hb343 := low0 hb103 hi342
      have k344 := (hS102.blk.grown0 hi342)
      refine Xi (v := .slice a bs.length c) V2 rfl (k344.cell rfl) rfl ?_
      exact Xa ⟨rfl, hi342⟩
     refine Xj rfl (fun w345 hi346 => ?_) ?_
     ·
      have hb347 := low0 hb103 hi346
      refine Ym (by kernel_rfl) rfl rfl ?_
      exact Xa ⟨rfl, hi346⟩
     refine Xj rfl (fun w348 hi349 => ?_) ?_
     ·
      have hb350 := low0 hb103 hi349
      refine Jg (c := ((p + 1) - 1) / (bs.length : Int)) rfl rfl (by omega) (by omega) (by omega) rfl rfl ?_
      exact Xa ⟨rfl, hi349⟩
     refine Xj rfl (fun w351 hi352 => ?_) ?_
     ·
      have hb353 := low0 hb103 hi352
      refine Vm (c := (((p + 1) - 1) / (bs.length : Int)) * 53) rfl rfl rfl (by omega) (by omega) rfl ?_
      exact Xa ⟨rfl, hi352⟩
     exact Zj
    ·
     intro w354 hi355
     have hb356 := low0 hb103 hi355
     refine Yx (c := x189 * 131 + (x203 * 1117) + (((p + 1) - 1) * 29) + ((((p + 1) - 1) / (bs.length : Int)) * 53)) rfl rfl (by omega) (by omega) (by omega) rfl ?_
     refine Xh (v := .int .i64 (x189 * 131 + (x203 * 1117) + (((p + 1) - 1) * 29) + ((((p + 1) - 1) / (bs.length : Int)) * 53))) rfl rfl ?_
     refine Xa ?_
     refine Xv ?_
     refine Xb ?_
     refine Xc (v := .int .i64 (x189 * 131 + (x203 * 1117) + (((p + 1) - 1) * 29) + ((((p + 1) - 1) / (bs.length : Int)) * 53))) rfl rfl ?_
     refine Xc (v := .int .i64 (x189 * 131 + (x203 * 1117) + (((p + 1) - 1) * 29) + ((((p + 1) - 1) / (bs.length : Int)) * 53))) rfl rfl ?_
     refine Jg (c := (x189 * 131 + (x203 * 1117) + (((p + 1) - 1) * 29) + ((((p + 1) - 1) / (bs.length : Int)) * 53)) / 64) rfl rfl (by omega) (by omega) (by omega) rfl rfl ?_
     have hx357 := Rx (x := x189 * 131 + (x203 * 1117) + (((p + 1) - 1) * 29) + ((((p + 1) - 1) / (bs.length : Int)) * 53)) (y := (x189 * 131 + (x203 * 1117) + (((p + 1) - 1) * 29) + ((((p + 1) - 1) / (bs.length : Int)) * 53)) / 64) (by omega) (by omega) (by omega) (by omega)
     refine Qu (u := .int .i64 (x189 * 131 + (x203 * 1117) + (((p + 1) - 1) * 29) + ((((p + 1) - 1) / (bs.length : Int)) * 53))) (u' := .int .i64 ((x189 * 131 + (x203 * 1117) + (((p + 1) - 1) * 29) + ((((p + 1) - 1) / (bs.length : Int)) * 53)) / 64)) (v := .int .i64 (bits .xor .i64 (x189 * 131 + (x203 * 1117) + (((p + 1) - 1) * 29) + ((((p + 1) - 1) / (bs.length : Int)) * 53)) ((x189 * 131 + (x203 * 1117) + (((p + 1) - 1) * 29) + ((((p + 1) - 1) / (bs.length : Int)) * 53)) / 64))) rfl rfl (by rw [binOp_xor, intBits_xor]; rfl) (fun _ _ => eqGuard_at_int ..) rfl ?_
     refine Xh (v := .int .i64 (bits .xor .i64 (x189 * 131 + (x203 * 1117) + (((p + 1) - 1) * 29) + ((((p + 1) - 1) / (bs.length : Int)) * 53)) ((x189 * 131 + (x203 * 1117) + (((p + 1) - 1) * 29) + ((((p + 1) - 1) / (bs.length : Int)) * 53)) / 64))) rfl rfl ?_
     refine Xa ?_
     refine Xb ?_
     refine Xc (v := .int .i64 (bits .xor .i64 (x189 * 131 + (x203 * 1117) + (((p + 1) - 1) * 29) + ((((p + 1) - 1) / (bs.length : Int)) * 53)) ((x189 * 131 + (x203 * 1117) + (((p + 1) - 1) * 29) + ((((p + 1) - 1) / (bs.length : Int)) * 53)) / 64))) rfl rfl ?_
     refine Xc (v := .int .i64 n) e110 rfl ?_
     have hr358 := Int.emod_nonneg (bits .xor .i64 (x189 * 131 + (x203 * 1117) + (((p + 1) - 1) * 29) + ((((p + 1) - 1) / (bs.length : Int)) * 53)) ((x189 * 131 + (x203 * 1117) + (((p + 1) - 1) * 29) + ((((p + 1) - 1) / (bs.length : Int)) * 53)) / 64)) (show n ≠ 0 by omega)
     have hr359 := Int.emod_lt_of_pos (bits .xor .i64 (x189 * 131 + (x203 * 1117) + (((p + 1) - 1) * 29) + ((((p + 1) - 1) / (bs.length : Int)) * 53)) ((x189 * 131 + (x203 * 1117) + (((p + 1) - 1) * 29) + ((((p + 1) - 1) / (bs.length : Int)) * 53)) / 64)) (show 0 < n by omega)
     refine Kj (c := (bits .xor .i64 (x189 * 131 + (x203 * 1117) + (((p + 1) - 1) * 29) + ((((p + 1) - 1) / (bs.length : Int)) * 53)) ((x189 * 131 + (x203 * 1117) + (((p + 1) - 1) * 29) + ((((p + 1) - 1) / (bs.length : Int)) * 53)) / 64)) % n) rfl rfl (by omega) (by omega) (by omega) rfl rfl ?_
     refine Xh (v := .int .i64 ((bits .xor .i64 (x189 * 131 + (x203 * 1117) + (((p + 1) - 1) * 29) + ((((p + 1) - 1) / (bs.length : Int)) * 53)) ((x189 * 131 + (x203 * 1117) + (((p + 1) - 1) * 29) + ((((p + 1) - 1) / (bs.length : Int)) * 53)) / 64)) % n)) rfl rfl ?_
     refine Xa ?_
     refine Xs ?_
     have k360 := (hS102.blk.grown0 hi355)
     refine ⟨.int .i64 ((bits .xor .i64 (x189 * 131 + (x203 * 1117) + (((p + 1) - 1) * 29) + ((((p + 1) - 1) / (bs.length : Int)) * 53)) ((x189 * 131 + (x203 * 1117) + (((p + 1) - 1) * 29) + ((((p + 1) - 1) / (bs.length : Int)) * 53)) / 64)) % n), Yq rfl rfl, ((bits .xor .i64 (x189 * 131 + (x203 * 1117) + (((p + 1) - 1) * 29) + ((((p + 1) - 1) / (bs.length : Int)) * 53)) ((x189 * 131 + (x203 * 1117) + (((p + 1) - 1) * 29) + ((((p + 1) - 1) / (bs.length : Int)) * 53)) / 64)) % n), rfl, by omega, by omega, k360, hb356⟩
theorem Lc (p : Int) (hp : 0 ≤ p ∧ p ≤ 1000000000000) (lo R : Nat) (bs : List Int) (a : Option Addr) (c : Nat) (w : World) (hR : Blk w R 108 #[.slice a bs.length c, .int .i64 p]) (hlo : lo ≤ R) (hs : SlLt lo w a 1 (bs.map bcell)) (hb : ∀ b ∈ bs, 0 ≤ b ∧ b ≤ 255) (hn : bs.length ≤ 1048576) : CallsR Tryd.prog 80 #[.pointer (some ⟨R, 0, none⟩)] w (fun v w' => ∃ (r : Rt) (p' : Int), v = .agg #[.int .i64 r.th, .int .i64 r.ve, .bool r.rd, .bool r.wr, .bool r.wk] ∧ -1 ≤ r.th ∧ r.th ≤ 9 ∧ -1 ≤ r.ve ∧ r.ve ≤ 9 ∧ p ≤ p' ∧ p' ≤ p + 8 ∧ Blk w' R 108 #[.slice a bs.length c, .int .i64 p'] ∧ w.grownBy w' (some R)) := by
 refine X0 (n := 49) Tryd.func80 rfl Tryd.ntmps80 rfl ?_
 have hb0 := World.grownBy.refl w (some R)
 have hRlt := hR.lt
 refine Xb ?_
 refine Yj (cs := #[.int .i64 0, .int .i64 0, .bool false, .bool false, .bool false]) J3 rfl rfl ?_
 intro B101 w102 hN103
 have hlB101 := Yf hN103 hb0
 have lt_R_B101 := Xq hN103 (hR).lt
 have hb104 := low0 hb0 hN103.grw
 refine Xa ?_
 refine Xt ?_
 refine Xb ?_
 refine Xc (v := .pointer (some ⟨R, 0, none⟩)) rfl rfl ?_
 have k105 := (hR.grown0 hN103.grw)
 refine Xn (vs := [.pointer (some ⟨R, 0, none⟩), .int .i64 6]) Y1 (Xg rfl (Xg rfl Xm)) rfl (Yr p 6 (by omega) _ R bs _ _ _ k105 (by omega) (SlLt.low1 hs hb104 hlo) (by first | exact hb | exact fun b h => hb b (List.mem_of_mem_take h)) (by first | omega | (rw [List.length_take]; omega))) ?_
 rintro _ w111 ⟨k106, rfl, hk107, hk108, kR109, hg110⟩
 have hb112 := grown_trans hb104 hg110
 refine X4 (q := decide (k106 = 0)) rfl rfl rfl rfl ?_
 refine Xa ?_
 refine Xw rfl (fun h113 => ?_) (fun h113 => ?_)
 ·
  have h114 := of_decide_eq_true h113
  refine Xb ?_
  refine Yw (ps := []) (v := .agg #[.int .i64 0, .int .i64 0, .bool false, .bool false, .bool false]) X9 (by kernel_rfl) rfl ?_
  have k115 := (hN103.blk.grown hg110 (Xf (by omega)))
  refine Xz (vs := [.int .i64 0, .int .i64 0, .bool false, .bool false, .bool false]) (cs' := #[.int .i64 0, .int .i64 0, .bool false, .bool false, .bool false]) Y8 rfl rfl rfl (by simp [Value.oneCell']) k115 (Nat.le_of_ble_eq_true rfl) rfl ?_
  intro w116 hS117
  have hb118 := low1 hb112 hS117.grw (by omega)
  refine Xa ?_
  refine Xs ?_
  refine Yi ?_
  have k119 := (kR109.grown hS117.grw (Xf (by omega)))
  refine ⟨.agg #[.int .i64 0, .int .i64 0, .bool false, .bool false, .bool false], Zx rfl (Yh (vs := [.int .i64 0, .int .i64 0, .bool false, .bool false, .bool false]) Y8 rfl rfl (hS117.blk.rangeL 0 5 rfl)), ⟨0, 0, false, false, false⟩, (p + 1), rfl, show (-1 : Int) ≤ 0 by omega, show 0 ≤ (9 : Int) by omega, show (-1 : Int) ≤ 0 by omega, show 0 ≤ (9 : Int) by omega, by omega, by omega, k119, hb118⟩
 ·
  have h120 := of_decide_eq_false h113
  refine Xy ?_
  refine Xv ?_
  refine Xb ?_
  refine Xc (v := .pointer (some ⟨R, 0, none⟩)) rfl rfl ?_
  refine Xn (vs := [.pointer (some ⟨R, 0, none⟩), .int .i64 8]) Y1 (Xg rfl (Xg rfl Xm)) rfl (Yr (p + 1) 8 (by omega) _ R bs _ _ _ kR109 (by omega) (SlLt.low1 hs hb112 hlo) (by first | exact hb | exact fun b h => hb b (List.mem_of_mem_take h)) (by first | omega | (rw [List.length_take]; omega))) ?_
  rintro _ w126 ⟨k121, rfl, hk122, hk123, kR124, hg125⟩
  have hb127 := grown_trans hb112 hg125
  refine Yx (c := 1 + k121) rfl rfl (by omega) (by omega) (by omega) rfl ?_
  refine Xc (v := .pointer (some ⟨R, 0, none⟩)) rfl rfl ?_
  refine Xn (vs := [.pointer (some ⟨R, 0, none⟩), .int .i64 3]) Y1 (Xg rfl (Xg rfl Xm)) rfl (Yr (p + 1 + 1) 3 (by omega) _ R bs _ _ _ kR124 (by omega) (SlLt.low1 hs hb127 hlo) (by first | exact hb | exact fun b h => hb b (List.mem_of_mem_take h)) (by first | omega | (rw [List.length_take]; omega))) ?_
  rintro _ w133 ⟨k128, rfl, hk129, hk130, kR131, hg132⟩
  have hb134 := grown_trans hb127 hg132
  refine Xc (v := .pointer (some ⟨R, 0, none⟩)) rfl rfl ?_
  refine Xn (vs := [.pointer (some ⟨R, 0, none⟩), .int .i64 4]) Y1 (Xg rfl (Xg rfl Xm)) rfl (Yr (p + 1 + 1 + 1) 4 (by omega) _ R bs _ _ _ kR131 (by omega) (SlLt.low1 hs hb134 hlo) (by first | exact hb | exact fun b h => hb b (List.mem_of_mem_take h)) (by first | omega | (rw [List.length_take]; omega))) ?_
  rintro _ w140 ⟨k135, rfl, hk136, hk137, kR138, hg139⟩
  have hb141 := grown_trans hb134 hg139
  refine Zq (q := decide (0 < k135)) rfl rfl rfl rfl ?_
  refine Xc (v := .pointer (some ⟨R, 0, none⟩)) rfl rfl ?_
  refine Xn (vs := [.pointer (some ⟨R, 0, none⟩), .int .i64 2]) Y1 (Xg rfl (Xg rfl Xm)) rfl (Yr (p + 1 + 1 + 1 + 1) 2 (by omega) _ R bs _ _ _ kR138 (by omega) (SlLt.low1 hs hb141 hlo) (by first | exact hb | exact fun b h => hb b (List.mem_of_mem_take h)) (by first | omega | (rw [List.length_take]; omega))) ?_
  rintro _ w147 ⟨k142, rfl, hk143, hk144, kR145, hg146⟩
  have hb148 := grown_trans hb141 hg146
  refine X4 (q := decide (k142 = 0)) rfl rfl rfl rfl ?_
  refine Yw (ps := [(0, .int .i64 (1 + k121)), (1, .int .i64 k128), (2, .bool (decide (0 < k135))), (3, .bool (decide (k142 = 0)))]) (v := .agg #[.int .i64 (1 + k121), .int .i64 k128, .bool (decide (0 < k135)), .bool (decide (k142 = 0)), .bool false]) (Xp rfl (Xp rfl (Xp rfl (Xp rfl X9)))) (by kernel_rfl) rfl ?_
  refine Yj (cs := #[.int .i64 0, .int .i64 0, .bool false, .bool false, .bool false]) J3 rfl rfl ?_
  intro B149 w150 hN151
  have hlB149 := Yf hN151 hb148
  have lt_R_B149 := Xq hN151 (kR145).lt
  have k152 := (((((hN103.blk.grown hg110 (Xf (by omega))).grown hg125 (Xf (by omega))).grown hg132 (Xf (by omega))).grown hg139 (Xf (by omega))).grown hg146 (Xf (by omega)))
  have lt_B101_B149 := Xq hN151 (k152).lt
  have hb153 := low0 hb148 hN151.grw
  refine Xz (vs := [.int .i64 (1 + k121), .int .i64 k128, .bool (decide (0 < k135)), .bool (decide (k142 = 0)), .bool false]) (cs' := #[.int .i64 (1 + k121), .int .i64 k128, .bool (decide (0 < k135)), .bool (decide (k142 = 0)), .bool false]) Y8 rfl rfl rfl (by simp [Value.oneCell']) hN151.blk (Nat.le_of_ble_eq_true rfl) rfl ?_
  intro w154 hS155
  have hb156 := low1 hb153 hS155.grw (by omega)
  refine Xa ?_
  refine Xt ?_
  refine Xb ?_
  refine Xd (o' := 3) Qv rfl rfl rfl ?_
  refine Xi (v := .bool (decide (k142 = 0))) Zv rfl (hS155.blk.cell rfl) rfl ?_
  refine Yk (b' := !(decide (k142 = 0))) rfl rfl rfl ?_
  refine Xa ?_
  refine Xw rfl (fun h157 => ?_) (fun h157 => ?_)
  ·
   have h158 := Zn h157
   have h159 := of_decide_eq_false h158
   refine X1 ?_
   refine Xc (v := .pointer (some ⟨R, 0, none⟩)) rfl rfl ?_
   have k160 := ((kR145.grown0 hN151.grw).grown hS155.grw (Xf (by omega)))
   refine Xn (vs := [.pointer (some ⟨R, 0, none⟩), .int .i64 2]) Y1 (Xg rfl (Xg rfl Xm)) rfl (Yr (p + 1 + 1 + 1 + 1 + 1) 2 (by omega) _ R bs _ _ _ k160 (by omega) (SlLt.low1 hs hb156 hlo) (by first | exact hb | exact fun b h => hb b (List.mem_of_mem_take h)) (by first | omega | (rw [List.length_take]; omega))) ?_
   rintro _ w166 ⟨k161, rfl, hk162, hk163, kR164, hg165⟩
   have hb167 := grown_trans hb156 hg165
   refine X4 (q := decide (k161 = 0)) rfl rfl rfl rfl ?_
   refine Xd (o' := 4) Kc rfl rfl rfl ?_
   have k168 := (hS155.blk.grown hg165 (Xf (by omega)))
   refine Yc (v := .bool (decide (k161 = 0))) (cs' := #[.int .i64 (1 + k121), .int .i64 k128, .bool (decide (0 < k135)), .bool (decide (k142 = 0)), .bool (decide (k161 = 0))]) Zv rfl rfl rfl k168 (Nat.le_of_ble_eq_true rfl) rfl ?_
   intro w169 hS170
   have hb171 := low1 hb167 hS170.grw (by omega)
   refine Xa ?_
   refine Xv ?_
   refine Xt ?_
   refine Xb ?_
   refine Xc (v := .pointer (some ⟨R, 0, none⟩)) rfl rfl ?_
   have k172 := (kR164.grown hS170.grw (Xf (by omega)))
   refine Xn (vs := [.pointer (some ⟨R, 0, none⟩), .int .i64 40]) Y1 (Xg rfl (Xg rfl Xm)) rfl (Yr (p + 1 + 1 + 1 + 1 + 1 + 1) 40 (by omega) _ R bs _ _ _ k172 (by omega) (SlLt.low1 hs hb171 hlo) (by first | exact hb | exact fun b h => hb b (List.mem_of_mem_take h)) (by first | omega | (rw [List.length_take]; omega))) ?_
   rintro _ w178 ⟨k173, rfl, hk174, hk175, kR176, hg177⟩
   have hb179 := grown_trans hb171 hg177
   refine Xa ?_
   refine Ye ?_
   refine Xb ?_
   refine X4 (q := decide (k173 = 0)) rfl rfl rfl rfl ?_
   refine Xh (v := .bool (decide (k173 = 0))) rfl rfl ?_
   refine Xa ?_
   refine Xw rfl (fun h180 => ?_) (fun h180 => ?_)
   ·
    have h181 := of_decide_eq_true h180
    refine X1 ?_
    refine Xd (o' := 4) Kc rfl rfl rfl ?_
    have k182 := (hS170.blk.grown hg177 (Xf (by omega)))
    refine Yc (v := .bool true) (cs' := #[.int .i64 (1 + k121), .int .i64 k128, .bool (decide (0 < k135)), .bool (decide (k142 = 0)), .bool true]) Zv rfl rfl rfl k182 (Nat.le_of_ble_eq_true rfl) rfl ?_
    intro w183 hS184
    have hb185 := low1 hb179 hS184.grw (by omega)
    refine Xa ?_
    refine Yy ?_
    refine Xv ?_
    refine Xb ?_
    refine Xu (vs := [.int .i64 (1 + k121), .int .i64 k128, .bool (decide (0 < k135)), .bool (decide (k142 = 0)), .bool true]) Y8 rfl rfl (hS184.blk.rangeL 0 5 rfl) rfl ?_
    have k186 := ((((((k152.grown0 hN151.grw).grown hS155.grw (Xf (by omega))).grown hg165 (Xf (by omega))).grown hS170.grw (Xf (by omega))).grown hg177 (Xf (by omega))).grown hS184.grw (Xf (by omega)))
    refine Xz (vs := [.int .i64 (1 + k121), .int .i64 k128, .bool (decide (0 < k135)), .bool (decide (k142 = 0)), .bool true]) (cs' := #[.int .i64 (1 + k121), .int .i64 k128, .bool (decide (0 < k135)), .bool (decide (k142 = 0)), .bool true]) Y8 rfl rfl rfl (by simp [Value.oneCell']) k186 (Nat.le_of_ble_eq_true rfl) rfl ?_
    intro w187 hS188
    have hb189 := low1 hb185 hS188.grw (by omega)
    refine Xa ?_
    refine Xs ?_
    have k190 := ((kR176.grown hS184.grw (Xf (by omega))).grown hS188.grw (Xf (by omega)))
    refine ⟨.agg #[.int .i64 (1 + k121), .int .i64 k128, .bool (decide (0 < k135)), .bool (decide (k142 = 0)), .bool true], Zx rfl (Yh (vs := [.int .i64 (1 + k121), .int .i64 k128, .bool (decide (0 < k135)), .bool (decide (k142 = 0)), .bool true]) Y8 rfl rfl (hS188.blk.rangeL 0 5 rfl)), ⟨1 + k121, k128, decide (0 < k135), decide (k142 = 0), true⟩, (p + 1 + 1 + 1 + 1 + 1 + 1 + 1), rfl, show (-1 : Int) ≤ 1 + k121 by omega, show 1 + k121 ≤ (9 : Int) by omega, show (-1 : Int) ≤ k128 by omega, show k128 ≤ (9 : Int) by omega, by omega, by omega, k190, hb189⟩
   ·
    have h191 := of_decide_eq_false h180
    refine Xb ?_
    refine X4 (q := decide (k173 = 1)) rfl rfl rfl rfl ?_
    refine Xh (v := .bool (decide (k173 = 1))) rfl rfl ?_
    refine Xa ?_
    refine Xw rfl (fun h192 => ?_) (fun h192 => ?_)
    ·
     have h193 := of_decide_eq_true h192
     refine X1 ?_
     refine X7 (ps := [(0, .int .i64 0), (1, .int .i64 9), (2, .int .i64 (-1))]) (e := 3) (cs := (([0, 9, (-1)] : List Int).flatMap icell).toArray) (Xp rfl (Xp rfl (Xp rfl X9))) (fun _ => by kernel_rfl) rfl ?_
     intro B194 w195 hN196
     have hlB194 := Yf hN196 hb179
     have lt_R_B194 := Xq hN196 (kR176).lt
     have k197 := (((((k152.grown0 hN151.grw).grown hS155.grw (Xf (by omega))).grown hg165 (Xf (by omega))).grown hS170.grw (Xf (by omega))).grown hg177 (Xf (by omega)))
     have lt_B101_B194 := Xq hN196 (k197).lt
     have k198 := (hS170.blk.grown hg177 (Xf (by omega)))
     have lt_B149_B194 := Xq hN196 (k198).lt
     have hb199 := low0 hb179 hN196.grw
     refine Xc (v := .pointer (some ⟨R, 0, none⟩)) rfl rfl ?_
     have k200 := (kR176.grown0 hN196.grw)
     refine Xn (vs := [.pointer (some ⟨R, 0, none⟩), .int .i64 3]) Y1 (Xg rfl (Xg rfl Xm)) rfl (Yr (p + 1 + 1 + 1 + 1 + 1 + 1 + 1) 3 (by omega) _ R bs _ _ _ k200 (by omega) (SlLt.low1 hs hb199 hlo) (by first | exact hb | exact fun b h => hb b (List.mem_of_mem_take h)) (by first | omega | (rw [List.length_take]; omega))) ?_
     rintro _ w206 ⟨k201, rfl, hk202, hk203, kR204, hg205⟩
     have hb207 := grown_trans hb199 hg205
     refine X8 (o' := (k201).toNat * 1) Qa rfl rfl (by omega) (by omega) (by omega) rfl ?_
     have k208 := (hN196.blk.grown hg205 (Xf (by omega)))
     obtain ⟨x209, hx210⟩ := Zf (l := ([0, 9, (-1)] : List Int)) (i := (k201).toNat) (show (k201).toNat < 3 by omega)
     have hm211 := List.mem_of_getElem? hx210
     simp only [List.mem_cons, List.not_mem_nil, or_false] at hm211
     refine Xi (v := .int .i64 x209) X3 rfl ((Y9 Ys k208 hx210) 0 _ rfl) rfl ?_
     refine Xd (o' := 0) Yp rfl rfl rfl ?_
     have k212 := ((k198.grown0 hN196.grw).grown hg205 (Xf (by omega)))
     refine Yc (v := .int .i64 x209) (cs' := #[.int .i64 x209, .int .i64 k128, .bool (decide (0 < k135)), .bool (decide (k142 = 0)), .bool (decide (k161 = 0))]) X3 rfl rfl rfl k212 (Nat.le_of_ble_eq_true rfl) rfl ?_
     intro w213 hS214
     have hb215 := low1 hb207 hS214.grw (by omega)
     refine Xa ?_
     refine Yy ?_
     refine Xv ?_
     refine Xb ?_
     refine Xu (vs := [.int .i64 x209, .int .i64 k128, .bool (decide (0 < k135)), .bool (decide (k142 = 0)), .bool (decide (k161 = 0))]) Y8 rfl rfl (hS214.blk.rangeL 0 5 rfl) rfl ?_
     have k216 := (((k197.grown0 hN196.grw).grown hg205 (Xf (by omega))).grown hS214.grw (Xf (by omega)))
     refine Xz (vs := [.int .i64 x209, .int .i64 k128, .bool (decide (0 < k135)), .bool (decide (k142 = 0)), .bool (decide (k161 = 0))]) (cs' := #[.int .i64 x209, .int .i64 k128, .bool (decide (0 < k135)), .bool (decide (k142 = 0)), .bool (decide (k161 = 0))]) Y8 rfl rfl rfl (by simp [Value.oneCell']) k216 (Nat.le_of_ble_eq_true rfl) rfl ?_
     intro w217 hS218
     have hb219 := low1 hb215 hS218.grw (by omega)
     refine Xa ?_
     refine Xs ?_
     have k220 := ((kR204.grown hS214.grw (Xf (by omega))).grown hS218.grw (Xf (by omega)))
     refine ⟨.agg #[.int .i64 x209, .int .i64 k128, .bool (decide (0 < k135)), .bool (decide (k142 = 0)), .bool (decide (k161 = 0))], Zx rfl (Yh (vs := [.int .i64 x209, .int .i64 k128, .bool (decide (0 < k135)), .bool (decide (k142 = 0)), .bool (decide (k161 = 0))]) Y8 rfl rfl (hS218.blk.rangeL 0 5 rfl)), ⟨x209, k128, decide (0 < k135), decide (k142 = 0), decide (k161 = 0)⟩, (p + 1 + 1 + 1 + 1 + 1 + 1 + 1 + 1), rfl, show (-1 : Int) ≤ x209 by omega, show x209 ≤ (9 : Int) by omega, show (-1 : Int) ≤ k128 by omega, show k128 ≤ (9 : Int) by omega, by omega, by omega, k220, hb219⟩
    ·
     have h221 := of_decide_eq_false h192
     refine Xb ?_
     refine X4 (q := decide (k173 = 2)) rfl rfl rfl rfl ?_
     refine Xh (v := .bool (decide (k173 = 2))) rfl rfl ?_
     refine Xa ?_
     refine Xw rfl (fun h222 => ?_) (fun h222 => ?_)
     ·
      have h223 := of_decide_eq_true h222
      refine X1 ?_
      refine X7 (ps := [(0, .int .i64 (-1)), (1, .int .i64 5), (2, .int .i64 6)]) (e := 3) (cs := (([(-1), 5, 6] : List Int).flatMap icell).toArray) (Xp rfl (Xp rfl (Xp rfl X9))) (fun _ => by kernel_rfl) rfl ?_
      intro B224 w225 hN226
      have hlB224 := Yf hN226 hb179
      have lt_R_B224 := Xq hN226 (kR176).lt
      have k227 := (((((k152.grown0 hN151.grw).grown hS155.grw (Xf (by omega))).grown hg165 (Xf (by omega))).grown hS170.grw (Xf (by omega))).grown hg177 (Xf (by omega)))
      have lt_B101_B224 := Xq hN226 (k227).lt
      have k228 := (hS170.blk.grown hg177 (Xf (by omega)))
      have lt_B149_B224 := Xq hN226 (k228).lt
      have hb229 := low0 hb179 hN226.grw
      refine Xc (v := .pointer (some ⟨R, 0, none⟩)) rfl rfl ?_
      have k230 := (kR176.grown0 hN226.grw)
      refine Xn (vs := [.pointer (some ⟨R, 0, none⟩), .int .i64 3]) Y1 (Xg rfl (Xg rfl Xm)) rfl (Yr (p + 1 + 1 + 1 + 1 + 1 + 1 + 1) 3 (by omega) _ R bs _ _ _ k230 (by omega) (SlLt.low1 hs hb229 hlo) (by first | exact hb | exact fun b h => hb b (List.mem_of_mem_take h)) (by first | omega | (rw [List.length_take]; omega))) ?_
      rintro _ w236 ⟨k231, rfl, hk232, hk233, kR234, hg235⟩
      have hb237 := grown_trans hb229 hg235
      refine X8 (o' := (k231).toNat * 1) Qa rfl rfl (by omega) (by omega) (by omega) rfl ?_
      have k238 := (hN226.blk.grown hg235 (Xf (by omega)))
      obtain ⟨x239, hx240⟩ := Zf (l := ([(-1), 5, 6] : List Int)) (i := (k231).toNat) (show (k231).toNat < 3 by omega)
      have hm241 := List.mem_of_getElem? hx240
      simp only [List.mem_cons, List.not_mem_nil, or_false] at hm241
      refine Xi (v := .int .i64 x239) X3 rfl ((Y9 Ys k238 hx240) 0 _ rfl) rfl ?_
      refine Xd (o' := 1) Ql rfl rfl rfl ?_
      have k242 := ((k228.grown0 hN226.grw).grown hg235 (Xf (by omega)))
      refine Yc (v := .int .i64 x239) (cs' := #[.int .i64 (1 + k121), .int .i64 x239, .bool (decide (0 < k135)), .bool (decide (k142 = 0)), .bool (decide (k161 = 0))]) X3 rfl rfl rfl k242 (Nat.le_of_ble_eq_true rfl) rfl ?_
      intro w243 hS244
      have hb245 := low1 hb237 hS244.grw (by omega)
      refine Xa ?_
      refine Yy ?_
      refine Xv ?_
      refine Xb ?_
      refine Xu (vs := [.int .i64 (1 + k121), .int .i64 x239, .bool (decide (0 < k135)), .bool (decide (k142 = 0)), .bool (decide (k161 = 0))]) Y8 rfl rfl (hS244.blk.rangeL 0 5 rfl) rfl ?_
      have k246 := (((k227.grown0 hN226.grw).grown hg235 (Xf (by omega))).grown hS244.grw (Xf (by omega)))
      refine Xz (vs := [.int .i64 (1 + k121), .int .i64 x239, .bool (decide (0 < k135)), .bool (decide (k142 = 0)), .bool (decide (k161 = 0))]) (cs' := #[.int .i64 (1 + k121), .int .i64 x239, .bool (decide (0 < k135)), .bool (decide (k142 = 0)), .bool (decide (k161 = 0))]) Y8 rfl rfl rfl (by simp [Value.oneCell']) k246 (Nat.le_of_ble_eq_true rfl) rfl ?_
      intro w247 hS248
      have hb249 := low1 hb245 hS248.grw (by omega)
      refine Xa ?_
      refine Xs ?_
      have k250 := ((kR234.grown hS244.grw (Xf (by omega))).grown hS248.grw (Xf (by omega)))
      refine ⟨.agg #[.int .i64 (1 + k121), .int .i64 x239, .bool (decide (0 < k135)), .bool (decide (k142 = 0)), .bool (decide (k161 = 0))], Zx rfl (Yh (vs := [.int .i64 (1 + k121), .int .i64 x239, .bool (decide (0 < k135)), .bool (decide (k142 = 0)), .bool (decide (k161 = 0))]) Y8 rfl rfl (hS248.blk.rangeL 0 5 rfl)), ⟨1 + k121, x239, decide (0 < k135), decide (k142 = 0), decide (k161 = 0)⟩, (p + 1 + 1 + 1 + 1 + 1 + 1 + 1 + 1), rfl, show (-1 : Int) ≤ 1 + k121 by omega, show 1 + k121 ≤ (9 : Int) by omega, show (-1 : Int) ≤ x239 by omega, show x239 ≤ (9 : Int) by omega, by omega, by omega, k250, hb249⟩
     ·
      have h251 := of_decide_eq_false h222
      refine Xy ?_
      refine Yy ?_
      refine Xv ?_
      refine Xb ?_
      have k252 := (hS170.blk.grown hg177 (Xf (by omega)))
      refine Xu (vs := [.int .i64 (1 + k121), .int .i64 k128, .bool (decide (0 < k135)), .bool (decide (k142 = 0)), .bool (decide (k161 = 0))]) Y8 rfl rfl (k252.rangeL 0 5 rfl) rfl ?_
      have k253 := (((((k152.grown0 hN151.grw).grown hS155.grw (Xf (by omega))).grown hg165 (Xf (by omega))).grown hS170.grw (Xf (by omega))).grown hg177 (Xf (by omega)))
      refine Xz (vs := [.int .i64 (1 + k121), .int .i64 k128, .bool (decide (0 < k135)), .bool (decide (k142 = 0)), .bool (decide (k161 = 0))]) (cs' := #[.int .i64 (1 + k121), .int .i64 k128, .bool (decide (0 < k135)), .bool (decide (k142 = 0)), .bool (decide (k161 = 0))]) Y8 rfl rfl rfl (by simp [Value.oneCell']) k253 (Nat.le_of_ble_eq_true rfl) rfl ?_
      intro w254 hS255
      have hb256 := low1 hb179 hS255.grw (by omega)
      refine Xa ?_
      refine Xs ?_
      have k257 := (kR176.grown hS255.grw (Xf (by omega)))
      refine ⟨.agg #[.int .i64 (1 + k121), .int .i64 k128, .bool (decide (0 < k135)), .bool (decide (k142 = 0)), .bool (decide (k161 = 0))], Zx rfl (Yh (vs := [.int .i64 (1 + k121), .int .i64 k128, .bool (decide (0 < k135)), .bool (decide (k142 = 0)), .bool (decide (k161 = 0))]) Y8 rfl rfl (hS255.blk.rangeL 0 5 rfl)), ⟨1 + k121, k128, decide (0 < k135), decide (k142 = 0), decide (k161 = 0)⟩, (p + 1 + 1 + 1 + 1 + 1 + 1 + 1), rfl, show (-1 : Int) ≤ 1 + k121 by omega, show 1 + k121 ≤ (9 : Int) by omega, show (-1 : Int) ≤ k128 by omega, show k128 ≤ (9 : Int) by omega, by omega, by omega, k257, hb256⟩
  ·
   have h258 := Zh h157
   have h259 := of_decide_eq_true h258
   refine Xy ?_
   refine Xv ?_
   refine Xt ?_
   refine Xb ?_
   refine Xc (v := .pointer (some ⟨R, 0, none⟩)) rfl rfl ?_
   have k260 := ((kR145.grown0 hN151.grw).grown hS155.grw (Xf (by omega)))
   refine Xn (vs := [.pointer (some ⟨R, 0, none⟩), .int .i64 40]) Y1 (Xg rfl (Xg rfl Xm)) rfl (Yr (p + 1 + 1 + 1 + 1 + 1) 40 (by omega) _ R bs _ _ _ k260 (by omega) (SlLt.low1 hs hb156 hlo) (by first | exact hb | exact fun b h => hb b (List.mem_of_mem_take h)) (by first | omega | (rw [List.length_take]; omega))) ?_
   rintro _ w266 ⟨k261, rfl, hk262, hk263, kR264, hg265⟩
   have hb267 := grown_trans hb156 hg265
   refine Xa ?_
   refine Ye ?_
   refine Xb ?_
   refine X4 (q := decide (k261 = 0)) rfl rfl rfl rfl ?_
   refine Xh (v := .bool (decide (k261 = 0))) rfl rfl ?_
   refine Xa ?_
   refine Xw rfl (fun h268 => ?_) (fun h268 => ?_)
   ·
    have h269 := of_decide_eq_true h268
    refine X1 ?_
    refine Xd (o' := 4) Kc rfl rfl rfl ?_
    have k270 := (hS155.blk.grown hg265 (Xf (by omega)))
    refine Yc (v := .bool true) (cs' := #[.int .i64 (1 + k121), .int .i64 k128, .bool (decide (0 < k135)), .bool (decide (k142 = 0)), .bool true]) Zv rfl rfl rfl k270 (Nat.le_of_ble_eq_true rfl) rfl ?_
    intro w271 hS272
    have hb273 := low1 hb267 hS272.grw (by omega)
    refine Xa ?_
    refine Yy ?_
    refine Xv ?_
    refine Xb ?_
    refine Xu (vs := [.int .i64 (1 + k121), .int .i64 k128, .bool (decide (0 < k135)), .bool (decide (k142 = 0)), .bool true]) Y8 rfl rfl (hS272.blk.rangeL 0 5 rfl) rfl ?_
    have k274 := ((((k152.grown0 hN151.grw).grown hS155.grw (Xf (by omega))).grown hg265 (Xf (by omega))).grown hS272.grw (Xf (by omega)))
    refine Xz (vs := [.int .i64 (1 + k121), .int .i64 k128, .bool (decide (0 < k135)), .bool (decide (k142 = 0)), .bool true]) (cs' := #[.int .i64 (1 + k121), .int .i64 k128, .bool (decide (0 < k135)), .bool (decide (k142 = 0)), .bool true]) Y8 rfl rfl rfl (by simp [Value.oneCell']) k274 (Nat.le_of_ble_eq_true rfl) rfl ?_
    intro w275 hS276
    have hb277 := low1 hb273 hS276.grw (by omega)
    refine Xa ?_
    refine Xs ?_
    have k278 := ((kR264.grown hS272.grw (Xf (by omega))).grown hS276.grw (Xf (by omega)))
    refine ⟨.agg #[.int .i64 (1 + k121), .int .i64 k128, .bool (decide (0 < k135)), .bool (decide (k142 = 0)), .bool true], Zx rfl (Yh (vs := [.int .i64 (1 + k121), .int .i64 k128, .bool (decide (0 < k135)), .bool (decide (k142 = 0)), .bool true]) Y8 rfl rfl (hS276.blk.rangeL 0 5 rfl)), ⟨1 + k121, k128, decide (0 < k135), decide (k142 = 0), true⟩, (p + 1 + 1 + 1 + 1 + 1 + 1), rfl, show (-1 : Int) ≤ 1 + k121 by omega, show 1 + k121 ≤ (9 : Int) by omega, show (-1 : Int) ≤ k128 by omega, show k128 ≤ (9 : Int) by omega, by omega, by omega, k278, hb277⟩
   ·
    have h279 := of_decide_eq_false h268
    refine Xb ?_
    refine X4 (q := decide (k261 = 1)) rfl rfl rfl rfl ?_
    refine Xh (v := .bool (decide (k261 = 1))) rfl rfl ?_
    refine Xa ?_
    refine Xw rfl (fun h280 => ?_) (fun h280 => ?_)
    ·
     have h281 := of_decide_eq_true h280
     refine X1 ?_
     refine X7 (ps := [(0, .int .i64 0), (1, .int .i64 9), (2, .int .i64 (-1))]) (e := 3) (cs := (([0, 9, (-1)] : List Int).flatMap icell).toArray) (Xp rfl (Xp rfl (Xp rfl X9))) (fun _ => by kernel_rfl) rfl ?_
     intro B282 w283 hN284
     have hlB282 := Yf hN284 hb267
     have lt_R_B282 := Xq hN284 (kR264).lt
     have k285 := (((k152.grown0 hN151.grw).grown hS155.grw (Xf (by omega))).grown hg265 (Xf (by omega)))
     have lt_B101_B282 := Xq hN284 (k285).lt
     have k286 := (hS155.blk.grown hg265 (Xf (by omega)))
     have lt_B149_B282 := Xq hN284 (k286).lt
     have hb287 := low0 hb267 hN284.grw
     refine Xc (v := .pointer (some ⟨R, 0, none⟩)) rfl rfl ?_
     have k288 := (kR264.grown0 hN284.grw)
     refine Xn (vs := [.pointer (some ⟨R, 0, none⟩), .int .i64 3]) Y1 (Xg rfl (Xg rfl Xm)) rfl (Yr (p + 1 + 1 + 1 + 1 + 1 + 1) 3 (by omega) _ R bs _ _ _ k288 (by omega) (SlLt.low1 hs hb287 hlo) (by first | exact hb | exact fun b h => hb b (List.mem_of_mem_take h)) (by first | omega | (rw [List.length_take]; omega))) ?_
     rintro _ w294 ⟨k289, rfl, hk290, hk291, kR292, hg293⟩
     have hb295 := grown_trans hb287 hg293
     refine X8 (o' := (k289).toNat * 1) Qa rfl rfl (by omega) (by omega) (by omega) rfl ?_
     have k296 := (hN284.blk.grown hg293 (Xf (by omega)))
     obtain ⟨x297, hx298⟩ := Zf (l := ([0, 9, (-1)] : List Int)) (i := (k289).toNat) (show (k289).toNat < 3 by omega)
     have hm299 := List.mem_of_getElem? hx298
     simp only [List.mem_cons, List.not_mem_nil, or_false] at hm299
     refine Xi (v := .int .i64 x297) X3 rfl ((Y9 Ys k296 hx298) 0 _ rfl) rfl ?_
     refine Xd (o' := 0) Yp rfl rfl rfl ?_
     have k300 := ((k286.grown0 hN284.grw).grown hg293 (Xf (by omega)))
     refine Yc (v := .int .i64 x297) (cs' := #[.int .i64 x297, .int .i64 k128, .bool (decide (0 < k135)), .bool (decide (k142 = 0)), .bool false]) X3 rfl rfl rfl k300 (Nat.le_of_ble_eq_true rfl) rfl ?_
     intro w301 hS302
     have hb303 := low1 hb295 hS302.grw (by omega)
     refine Xa ?_
     refine Yy ?_
     refine Xv ?_
     refine Xb ?_
     refine Xu (vs := [.int .i64 x297, .int .i64 k128, .bool (decide (0 < k135)), .bool (decide (k142 = 0)), .bool false]) Y8 rfl rfl (hS302.blk.rangeL 0 5 rfl) rfl ?_
     have k304 := (((k285.grown0 hN284.grw).grown hg293 (Xf (by omega))).grown hS302.grw (Xf (by omega)))
     refine Xz (vs := [.int .i64 x297, .int .i64 k128, .bool (decide (0 < k135)), .bool (decide (k142 = 0)), .bool false]) (cs' := #[.int .i64 x297, .int .i64 k128, .bool (decide (0 < k135)), .bool (decide (k142 = 0)), .bool false]) Y8 rfl rfl rfl (by simp [Value.oneCell']) k304 (Nat.le_of_ble_eq_true rfl) rfl ?_
     intro w305 hS306
     have hb307 := low1 hb303 hS306.grw (by omega)
     refine Xa ?_
     refine Xs ?_
     have k308 := ((kR292.grown hS302.grw (Xf (by omega))).grown hS306.grw (Xf (by omega)))
     refine ⟨.agg #[.int .i64 x297, .int .i64 k128, .bool (decide (0 < k135)), .bool (decide (k142 = 0)), .bool false], Zx rfl (Yh (vs := [.int .i64 x297, .int .i64 k128, .bool (decide (0 < k135)), .bool (decide (k142 = 0)), .bool false]) Y8 rfl rfl (hS306.blk.rangeL 0 5 rfl)), ⟨x297, k128, decide (0 < k135), decide (k142 = 0), false⟩, (p + 1 + 1 + 1 + 1 + 1 + 1 + 1), rfl, show (-1 : Int) ≤ x297 by omega, show x297 ≤ (9 : Int) by omega, show (-1 : Int) ≤ k128 by omega, show k128 ≤ (9 : Int) by omega, by omega, by omega, k308, hb307⟩
    ·
     have h309 := of_decide_eq_false h280
     refine Xb ?_
     refine X4 (q := decide (k261 = 2)) rfl rfl rfl rfl ?_
     refine Xh (v := .bool (decide (k261 = 2))) rfl rfl ?_
     refine Xa ?_
     refine Xw rfl (fun h310 => ?_) (fun h310 => ?_)
     ·
      have h311 := of_decide_eq_true h310
      refine X1 ?_
      refine X7 (ps := [(0, .int .i64 (-1)), (1, .int .i64 5), (2, .int .i64 6)]) (e := 3) (cs := (([(-1), 5, 6] : List Int).flatMap icell).toArray) (Xp rfl (Xp rfl (Xp rfl X9))) (fun _ => by kernel_rfl) rfl ?_
      intro B312 w313 hN314
      have hlB312 := Yf hN314 hb267
      have lt_R_B312 := Xq hN314 (kR264).lt
      have k315 := (((k152.grown0 hN151.grw).grown hS155.grw (Xf (by omega))).grown hg265 (Xf (by omega)))
      have lt_B101_B312 := Xq hN314 (k315).lt
      have k316 := (hS155.blk.grown hg265 (Xf (by omega)))
      have lt_B149_B312 := Xq hN314 (k316).lt
      have hb317 := low0 hb267 hN314.grw
      refine Xc (v := .pointer (some ⟨R, 0, none⟩)) rfl rfl ?_
      have k318 := (kR264.grown0 hN314.grw)
      refine Xn (vs := [.pointer (some ⟨R, 0, none⟩), .int .i64 3]) Y1 (Xg rfl (Xg rfl Xm)) rfl (Yr (p + 1 + 1 + 1 + 1 + 1 + 1) 3 (by omega) _ R bs _ _ _ k318 (by omega) (SlLt.low1 hs hb317 hlo) (by first | exact hb | exact fun b h => hb b (List.mem_of_mem_take h)) (by first | omega | (rw [List.length_take]; omega))) ?_
      rintro _ w324 ⟨k319, rfl, hk320, hk321, kR322, hg323⟩
      have hb325 := grown_trans hb317 hg323
      refine X8 (o' := (k319).toNat * 1) Qa rfl rfl (by omega) (by omega) (by omega) rfl ?_
      have k326 := (hN314.blk.grown hg323 (Xf (by omega)))
      obtain ⟨x327, hx328⟩ := Zf (l := ([(-1), 5, 6] : List Int)) (i := (k319).toNat) (show (k319).toNat < 3 by omega)
      have hm329 := List.mem_of_getElem? hx328
      simp only [List.mem_cons, List.not_mem_nil, or_false] at hm329
      refine Xi (v := .int .i64 x327) X3 rfl ((Y9 Ys k326 hx328) 0 _ rfl) rfl ?_
      refine Xd (o' := 1) Ql rfl rfl rfl ?_
      have k330 := ((k316.grown0 hN314.grw).grown hg323 (Xf (by omega)))
      refine Yc (v := .int .i64 x327) (cs' := #[.int .i64 (1 + k121), .int .i64 x327, .bool (decide (0 < k135)), .bool (decide (k142 = 0)), .bool false]) X3 rfl rfl rfl k330 (Nat.le_of_ble_eq_true rfl) rfl ?_
      intro w331 hS332
      have hb333 := low1 hb325 hS332.grw (by omega)
      refine Xa ?_
      refine Yy ?_
      refine Xv ?_
      refine Xb ?_
      refine Xu (vs := [.int .i64 (1 + k121), .int .i64 x327, .bool (decide (0 < k135)), .bool (decide (k142 = 0)), .bool false]) Y8 rfl rfl (hS332.blk.rangeL 0 5 rfl) rfl ?_
      have k334 := (((k315.grown0 hN314.grw).grown hg323 (Xf (by omega))).grown hS332.grw (Xf (by omega)))
      refine Xz (vs := [.int .i64 (1 + k121), .int .i64 x327, .bool (decide (0 < k135)), .bool (decide (k142 = 0)), .bool false]) (cs' := #[.int .i64 (1 + k121), .int .i64 x327, .bool (decide (0 < k135)), .bool (decide (k142 = 0)), .bool false]) Y8 rfl rfl rfl (by simp [Value.oneCell']) k334 (Nat.le_of_ble_eq_true rfl) rfl ?_
      intro w335 hS336
      have hb337 := low1 hb333 hS336.grw (by omega)
      refine Xa ?_
      refine Xs ?_
      have k338 := ((kR322.grown hS332.grw (Xf (by omega))).grown hS336.grw (Xf (by omega)))
      refine ⟨.agg #[.int .i64 (1 + k121), .int .i64 x327, .bool (decide (0 < k135)), .bool (decide (k142 = 0)), .bool false], Zx rfl (Yh (vs := [.int .i64 (1 + k121), .int .i64 x327, .bool (decide (0 < k135)), .bool (decide (k142 = 0)), .bool false]) Y8 rfl rfl (hS336.blk.rangeL 0 5 rfl)), ⟨1 + k121, x327, decide (0 < k135), decide (k142 = 0), false⟩, (p + 1 + 1 + 1 + 1 + 1 + 1 + 1), rfl, show (-1 : Int) ≤ 1 + k121 by omega, show 1 + k121 ≤ (9 : Int) by omega, show (-1 : Int) ≤ x327 by omega, show x327 ≤ (9 : Int) by omega, by omega, by omega, k338, hb337⟩
     ·
      have h339 := of_decide_eq_false h310
      refine Xy ?_
      refine Yy ?_
      refine Xv ?_
      refine Xb ?_
      have k340 := (hS155.blk.grown hg265 (Xf (by omega)))
      refine Xu (vs := [.int .i64 (1 + k121), .int .i64 k128, .bool (decide (0 < k135)), .bool (decide (k142 = 0)), .bool false]) Y8 rfl rfl (k340.rangeL 0 5 rfl) rfl ?_
      have k341 := (((k152.grown0 hN151.grw).grown hS155.grw (Xf (by omega))).grown hg265 (Xf (by omega)))
      refine Xz (vs := [.int .i64 (1 + k121), .int .i64 k128, .bool (decide (0 < k135)), .bool (decide (k142 = 0)), .bool false]) (cs' := #[.int .i64 (1 + k121), .int .i64 k128, .bool (decide (0 < k135)), .bool (decide (k142 = 0)), .bool false]) Y8 rfl rfl rfl (by simp [Value.oneCell']) k341 (Nat.le_of_ble_eq_true rfl) rfl ?_
      intro w342 hS343
      have hb344 := low1 hb267 hS343.grw (by omega)
      refine Xa ?_
      refine Xs ?_
      have k345 := (kR264.grown hS343.grw (Xf (by omega)))
      refine ⟨.agg #[.int .i64 (1 + k121), .int .i64 k128, .bool (decide (0 < k135)), .bool (decide (k142 = 0)), .bool false], Zx rfl (Yh (vs := [.int .i64 (1 + k121), .int .i64 k128, .bool (decide (0 < k135)), .bool (decide (k142 = 0)), .bool false]) Y8 rfl rfl (hS343.blk.rangeL 0 5 rfl)), ⟨1 + k121, k128, decide (0 < k135), decide (k142 = 0), false⟩, (p + 1 + 1 + 1 + 1 + 1 + 1), rfl, show (-1 : Int) ≤ 1 + k121 by omega, show 1 + k121 ≤ (9 : Int) by omega, show (-1 : Int) ≤ k128 by omega, show k128 ≤ (9 : Int) by omega, by omega, by omega, k345, hb344⟩
theorem Py (bs : List Int) (a : Option Addr) (c : Nat) (w : World) (hn : bs.length ≤ 1048576) (hc : bs.length ≤ c) : CallsR Tryd.prog 29 #[.slice a bs.length c] w (fun v w' => ∃ R : Nat, v = .pointer (some ⟨R, 0, none⟩) ∧ w.heap.size ≤ R ∧ Blk w' R 108 #[.slice a (bs.take 2000).length c, .int .i64 0] ∧ w.grownBy w' none) := by
 refine X0 (n := 11) Tryd.func29 rfl Tryd.ntmps29 rfl ?_
 have hb0 := World.grownBy.refl w none
 refine Xb ?_
 refine Xh (v := .pointer none) rfl rfl ?_
 refine Xa ?_
 refine Xt ?_
 refine Xb ?_
 refine Xc (v := .slice a bs.length c) rfl rfl ?_
 refine Ym (by kernel_rfl) rfl rfl ?_
 refine Zq (q := decide (2000 < (bs.length : Int))) rfl rfl rfl rfl ?_
 refine Xa ?_
 refine Xw rfl (fun h101 => ?_) (fun h101 => ?_)
 ·
  have h102 := of_decide_eq_true h101
  refine X1 ?_
  refine Xc (v := .slice a bs.length c) rfl rfl ?_
  refine Sa (e := 5) (sz := 1) (h := 2000) (by kernel_rfl) (by kernel_rfl) rfl rfl (by omega) rfl ?_
  refine Xh (v := .slice a 2000 c) rfl rfl ?_
  refine Xa ?_
  refine Xv ?_
  refine Xb ?_
  refine Xc (v := .slice a 2000 c) rfl rfl ?_
  refine Yw (ps := [(0, .slice a 2000 c)]) (v := .agg #[.slice a 2000 c, .int .i64 0]) (Xp rfl X9) (by kernel_rfl) rfl ?_
  refine Yu (v := .agg #[.slice a 2000 c, .int .i64 0]) (cs := #[.slice a 2000 c, .int .i64 0]) rfl rfl rfl ?_
  intro B103 w104 hN105
  have hlB103 := Yf hN105 hb0
  have hb106 := low0 hb0 hN105.grw
  refine Xh (v := .pointer (some ⟨B103, 0, none⟩)) rfl rfl ?_
  refine Xa ?_
  refine Xs ?_
  have hlen : 2000 = (bs.take 2000).length := by rw [List.length_take]; omega
  have kk := hN105.blk
  rw [hlen] at kk
  refine ⟨.pointer (some ⟨B103, 0, none⟩), Yq rfl rfl, B103, rfl, hlB103, kk, hb106⟩
 ·
  have h107 := of_decide_eq_false h101
  refine Xy ?_
  refine Xv ?_
  refine Xb ?_
  refine Xc (v := .slice a bs.length c) rfl rfl ?_
  refine Yw (ps := [(0, .slice a bs.length c)]) (v := .agg #[.slice a bs.length c, .int .i64 0]) (Xp rfl X9) (by kernel_rfl) rfl ?_
  refine Yu (v := .agg #[.slice a bs.length c, .int .i64 0]) (cs := #[.slice a bs.length c, .int .i64 0]) rfl rfl rfl ?_
  intro B108 w109 hN110
  have hlB108 := Yf hN110 hb0
  have hb111 := low0 hb0 hN110.grw
  refine Xh (v := .pointer (some ⟨B108, 0, none⟩)) rfl rfl ?_
  refine Xa ?_
  refine Xs ?_
  have hlen : bs.length = (bs.take 2000).length := by rw [List.length_take]; omega
  have kk := hN110.blk
  rw [hlen] at kk
  refine ⟨.pointer (some ⟨B108, 0, none⟩), Yq rfl rfl, B108, rfl, hlB108, kk, hb111⟩
end Go.Proofs.YtfoplmgoiblkgaaDoor
end
section
namespace Go.Dw
def thA (t : Th) : Bool := (((!inR t.kind 1 5) || (!labelOk t.lab)) || (!inR t.ve 0 5)) || (decide (3 < (t.queue.length : Int)))
def thB (t : Th) : Bool := ((!inR t.num (if t.kind = 3 then (-4) else 0) 99) || ((!(decide (t.num = 0))) && ((decide (t.kind = 2)) || (decide (t.kind = 4))))) || ((!(decide (t.ve = 0))) && ((decide (t.kind = 3)) || (decide (t.kind = 5))))
def thD (t : Th) : Bool := (((decide (t.kind = 2)) || (decide (t.kind = 3))) && (!(decide ((t.slots.length : Int) = 4)))) || ((!((decide (t.kind = 2)) || (decide (t.kind = 3)))) && (!(decide ((t.slots.length : Int) = 0))))
def thE (t : Th) : Bool := ((decide (t.kind = 4)) || (decide ((t.queue.length : Int) = 0))) && (((decide (t.kind = 5)) && inR t.to 1 8) || ((!(decide (t.kind = 5))) && (decide (t.to = 0))))
theorem Q7 (t : Th) : thingOk t = (!thA t && !thB t && t.queue.all numQ && t.slots.all rightOk && !thD t && thE t) := by
  have hl : (t.queue.length : Int) = 0 → t.queue.all numQ = true := fun h => by
    have : t.queue = [] := List.eq_nil_of_length_eq_zero (by omega)
    simp [this]
  have hr : (t.slots.length : Int) = 0 → t.slots.all rightOk = true := fun h => by
    have : t.slots = [] := List.eq_nil_of_length_eq_zero (by omega)
    simp [this]
  obtain ⟨k, l, ve, num, slots, queue, to⟩ := t
  simp only at hl hr
  unfold thingOk thA thB thD thE versOk numOk slotsOk queueOk targetOk inR
  simp only
  generalize labelOk l = L
  generalize slots.all rightOk = R at *
  generalize queue.all numQ = Q at *
  generalize queue.length = ql at *
  generalize slots.length = sl at *
  by_cases h1 : k = 1
  · subst h1
    rw [Bool.eq_iff_iff]
    cases L <;> cases R <;> cases Q <;> simp at hl hr ⊢ <;> omega
  by_cases h2 : k = 2
  · subst h2
    rw [Bool.eq_iff_iff]
    cases L <;> cases R <;> cases Q <;> simp at hl hr ⊢ <;> omega
  by_cases h3 : k = 3
  · subst h3
    rw [Bool.eq_iff_iff]
    cases L <;> cases R <;> cases Q <;> simp at hl hr ⊢ <;> omega
  by_cases h4 : k = 4
  · subst h4
    rw [Bool.eq_iff_iff]
    cases L <;> cases R <;> cases Q <;> simp at hl hr ⊢ <;> omega
  by_cases h5 : k = 5
  · subst h5
    rw [Bool.eq_iff_iff]
    cases L <;> cases R <;> cases Q <;> simp at hl hr ⊢ <;> omega
  have h6 : (decide (1 ≤ k) && decide (k ≤ 5)) = false := by simp; omega
  simp [h6]
theorem Bm {t : Th} (h : thA t = true) : false = thingOk t := by rw [Q7, h]; rfl
theorem Be {t : Th} (h : thB t = true) : false = thingOk t := by rw [Q7, h]; simp
theorem Bl {t : Th} (h : thD t = true) : false = thingOk t := by rw [Q7, h]; simp
theorem Bg {t : Th} {k : Nat} {x : Int} (hx : t.queue[k]? = some x) (h : inR x 0 99 = false) : false = thingOk t := by
  rw [Q7, Qo (p := numQ) hx h]; simp
theorem Bn {t : Th} {k : Nat} {x : Rt} (hx : t.slots[k]? = some x) (h : rightOk x = false) : false = thingOk t := by
  rw [Q7, Qo (p := rightOk) hx h]; simp
theorem Bf {t : Th} (ha : thA t = false) (hb : thB t = false) (hq : t.queue.all numQ = true) (hr : t.slots.all rightOk = true) (hd : thD t = false) : thE t = thingOk t := by
  rw [Q7, ha, hb, hq, hr, hd]; rfl
def Th.zero : Th := ⟨0, ⟨0, 0⟩, 0, 0, [], [], 0⟩
def has4 (k : Int) : Bool := decide (k = 2) || decide (k = 3)
def zeros4 : List Rt := [Rt.zero, Rt.zero, Rt.zero, Rt.zero]
def newTh (k : Int) (l : Lab) (to : Int) : Th := ⟨k, l, 0, 0, if has4 k = true then zeros4 else [], [], to⟩
def newOk (k : Int) (l : Lab) (to : Int) : Bool := thingOk (newTh k l to)
theorem V6 {k to : Int} {l : Lab} (h : has4 k = true) : newOk k l to = thingOk ⟨k, l, 0, 0, zeros4, [], to⟩ := by unfold newOk newTh; rw [if_pos h]
theorem Kb {k to : Int} {l : Lab} (h : has4 k = false) : newOk k l to = thingOk ⟨k, l, 0, 0, [], [], to⟩ := by unfold newOk newTh; rw [if_neg (by rw [h]; exact Bool.false_ne_true)]
theorem Tp {a b : Th} (h1 : a.kind = b.kind) (h2 : a.lab = b.lab) (h3 : a.ve = b.ve) (h4 : a.num = b.num) (h5 : a.slots = b.slots) (h6 : a.queue = b.queue) (h7 : a.to = b.to) : a = b := by
  obtain ⟨a1, a2, a3, a4, a5, a6, a7⟩ := a
  obtain ⟨b1, b2, b3, b4, b5, b6, b7⟩ := b
  simp only at h1 h2 h3 h4 h5 h6 h7
  subst h1 h2 h3 h4 h5 h6 h7
  rfl
end Go.Dw
end
section
namespace Go.Proofs.YtfoplmgoiblkgaaDoor
open Go.RowKit Go.Dw
set_option maxRecDepth 100000
set_option maxHeartbeats 4000000
set_option linter.unusedSimpArgs false
set_option linter.unusedVariables false
theorem Rb : arrTy Tryd.prog 148 = some (4, 37, 5) := by kernel_rfl
theorem Yt : fieldOff Tryd.prog 43 0 = some 0 := by kernel_rfl
theorem Q3 : fieldOff Tryd.prog 43 1 = some 1 := by kernel_rfl
theorem Z6 : fieldOff Tryd.prog 43 2 = some 3 := by kernel_rfl
theorem Qm : fieldOff Tryd.prog 43 3 = some 4 := by kernel_rfl
theorem Zt : fieldOff Tryd.prog 43 4 = some 5 := by kernel_rfl
theorem Qw : fieldOff Tryd.prog 43 5 = some 6 := by kernel_rfl
theorem Q6 : fieldOff Tryd.prog 43 6 = some 7 := by kernel_rfl
theorem S1 : goFn Tryd.prog 37 = true := by kernel_rfl
theorem Ju : goFn Tryd.prog 65 = true := by kernel_rfl
theorem T8 : goFn Tryd.prog 69 = true := by kernel_rfl
theorem Tf : goFn Tryd.prog 70 = true := by kernel_rfl
theorem Uf : goFn Tryd.prog 71 = true := by kernel_rfl
theorem M0 : goFn Tryd.prog 82 = true := by kernel_rfl
theorem Mv : goFn Tryd.prog 83 = true := by kernel_rfl
theorem Mk : goFn Tryd.prog 84 = true := by kernel_rfl
theorem M2 : goFn Tryd.prog 85 = true := by kernel_rfl
theorem Mc : goFn Tryd.prog 86 = true := by kernel_rfl
theorem Qq : oneTy Tryd.prog 40 = true := by kernel_rfl
theorem Jo : oneTy Tryd.prog 41 = true := by kernel_rfl
theorem Tk : rowTy Tryd.prog 148 = some 20 := by kernel_rfl
theorem Y0 : rowTy Tryd.prog 43 = some 8 := by kernel_rfl
theorem Pc (m : MTh) (w : World) : CallsR Tryd.prog 82 #[.agg #[.int .i64 m.t.kind, .int .i64 m.t.lab.s, .int .i64 m.t.lab.v, .int .i64 m.t.ve, .int .i64 m.t.num, .slice m.sa m.t.slots.length m.sc, .slice m.qa m.t.queue.length m.qc, .int .i64 m.t.to]] w (fun v w' => v = .bool (versOk m.t) ∧ w.grownBy w' none) := by
 refine X0 (n := 15) Tryd.func82 rfl Tryd.ntmps82 rfl ?_
 have hb0 := World.grownBy.refl w none
 refine Xb ?_
 refine Yu (v := .agg #[.int .i64 m.t.kind, .int .i64 m.t.lab.s, .int .i64 m.t.lab.v, .int .i64 m.t.ve, .int .i64 m.t.num, .slice m.sa m.t.slots.length m.sc, .slice m.qa m.t.queue.length m.qc, .int .i64 m.t.to]) (cs := #[.int .i64 m.t.kind, .int .i64 m.t.lab.s, .int .i64 m.t.lab.v, .int .i64 m.t.ve, .int .i64 m.t.num, .slice m.sa m.t.slots.length m.sc, .slice m.qa m.t.queue.length m.qc, .int .i64 m.t.to]) rfl rfl rfl ?_
 intro B101 w102 hN103
 have hlB101 := Yf hN103 hb0
 have hb104 := low0 hb0 hN103.grw
 refine Xh (v := .bool false) rfl rfl ?_
 refine Xa ?_
 refine Xt ?_
 refine Xb ?_
 refine Xd (o' := 0) Yt rfl rfl rfl ?_
 refine Xi (v := .int .i64 m.t.kind) X3 rfl (hN103.blk.cell rfl) rfl ?_
 refine Xa ?_
 refine Ye ?_
 refine Xt ?_
 refine Xb ?_
 refine X4 (q := decide (m.t.kind = 1)) rfl rfl rfl rfl ?_
 refine Xh (v := .bool (decide (m.t.kind = 1))) rfl rfl ?_
 refine Xa ?_
 refine Xw rfl (fun h105 => ?_) (fun h105 => ?_)
 ·
  have h106 := of_decide_eq_true h105
  refine Xy ?_
  refine Xv ?_
  refine Zc rfl h105 ?_
  refine Xb ?_
  refine Xd (o' := 3) Z6 rfl rfl rfl ?_
  refine Xi (v := .int .i64 m.t.ve) X3 rfl (hN103.blk.cell rfl) rfl ?_
  refine Xn (vs := [.int .i64 m.t.ve, .int .i64 0, .int .i64 5]) Ju (Xg rfl (Xg rfl (Xg rfl Xm))) rfl (Z0 m.t.ve 0 5 _) ?_
  rintro _ w107 ⟨rfl, hg108⟩
  have hb109 := low0 hb104 hg108
  refine Xh (v := .bool (inR m.t.ve 0 5)) rfl rfl ?_
  refine Xa ?_
  refine Xs ?_
  refine Y6 ?_
  refine Yi ?_
  refine ⟨.bool (inR m.t.ve 0 5), Yq rfl rfl, ?_, hb109⟩
  first | (simp [versOk, h106]; done) | (simp [versOk, h106]; omega) | (simp [versOk, h106]; intros; omega)
 ·
  have h110 := of_decide_eq_false h105
  refine Xb ?_
  refine X4 (q := decide (m.t.kind = 2)) rfl rfl rfl rfl ?_
  refine Xh (v := .bool (decide (m.t.kind = 2))) rfl rfl ?_
  refine Xa ?_
  refine Xw rfl (fun h111 => ?_) (fun h111 => ?_)
  ·
   have h112 := of_decide_eq_true h111
   refine Xy ?_
   refine Xv ?_
   refine Zc rfl h111 ?_
   refine Xb ?_
   refine Xd (o' := 3) Z6 rfl rfl rfl ?_
   refine Xi (v := .int .i64 m.t.ve) X3 rfl (hN103.blk.cell rfl) rfl ?_
   refine Xn (vs := [.int .i64 m.t.ve, .int .i64 0, .int .i64 5]) Ju (Xg rfl (Xg rfl (Xg rfl Xm))) rfl (Z0 m.t.ve 0 5 _) ?_
   rintro _ w113 ⟨rfl, hg114⟩
   have hb115 := low0 hb104 hg114
   refine Xh (v := .bool (inR m.t.ve 0 5)) rfl rfl ?_
   refine Xa ?_
   refine Xs ?_
   refine Y6 ?_
   refine Yi ?_
   refine ⟨.bool (inR m.t.ve 0 5), Yq rfl rfl, ?_, hb115⟩
   first | (simp [versOk, h110, h112]; done) | (simp [versOk, h110, h112]; omega) | (simp [versOk, h110, h112]; intros; omega)
  ·
   have h116 := of_decide_eq_false h111
   refine X1 ?_
   refine X4 (q := decide (m.t.kind = 4)) rfl rfl rfl rfl ?_
   refine Xh (v := .bool (decide (m.t.kind = 4))) rfl rfl ?_
   refine Xa ?_
   refine Xv ?_
   refine Xw rfl (fun h117 => ?_) (fun h117 => ?_)
   ·
    have h118 := of_decide_eq_true h117
    refine Xb ?_
    refine Xd (o' := 3) Z6 rfl rfl rfl ?_
    refine Xi (v := .int .i64 m.t.ve) X3 rfl (hN103.blk.cell rfl) rfl ?_
    refine Xn (vs := [.int .i64 m.t.ve, .int .i64 0, .int .i64 5]) Ju (Xg rfl (Xg rfl (Xg rfl Xm))) rfl (Z0 m.t.ve 0 5 _) ?_
    rintro _ w119 ⟨rfl, hg120⟩
    have hb121 := low0 hb104 hg120
    refine Xh (v := .bool (inR m.t.ve 0 5)) rfl rfl ?_
    refine Xa ?_
    refine Xs ?_
    refine Y6 ?_
    refine Yi ?_
    refine ⟨.bool (inR m.t.ve 0 5), Yq rfl rfl, ?_, hb121⟩
    first | (simp [versOk, h110, h116, h118]; done) | (simp [versOk, h110, h116, h118]; omega) | (simp [versOk, h110, h116, h118]; intros; omega)
   ·
    have h122 := of_decide_eq_false h117
    refine Xy ?_
    refine Yy ?_
    refine Xv ?_
    refine Xb ?_
    refine Xd (o' := 3) Z6 rfl rfl rfl ?_
    refine Xi (v := .int .i64 m.t.ve) X3 rfl (hN103.blk.cell rfl) rfl ?_
    refine X4 (q := decide (m.t.ve = 0)) rfl rfl rfl rfl ?_
    refine Xh (v := .bool (decide (m.t.ve = 0))) rfl rfl ?_
    refine Xa ?_
    refine Xs ?_
    refine ⟨.bool (decide (m.t.ve = 0)), Yq rfl rfl, ?_, hb104⟩
    first | (simp [versOk, h110, h116, h122]; done) | (simp [versOk, h110, h116, h122]; omega) | (simp [versOk, h110, h116, h122]; intros; omega)
theorem R7 (m : MTh) (w : World) : CallsR Tryd.prog 83 #[.agg #[.int .i64 m.t.kind, .int .i64 m.t.lab.s, .int .i64 m.t.lab.v, .int .i64 m.t.ve, .int .i64 m.t.num, .slice m.sa m.t.slots.length m.sc, .slice m.qa m.t.queue.length m.qc, .int .i64 m.t.to]] w (fun v w' => v = .bool (numOk m.t) ∧ w.grownBy w' none) := by
 refine X0 (n := 19) Tryd.func83 rfl Tryd.ntmps83 rfl ?_
 have hb0 := World.grownBy.refl w none
 refine Xb ?_
 refine Yu (v := .agg #[.int .i64 m.t.kind, .int .i64 m.t.lab.s, .int .i64 m.t.lab.v, .int .i64 m.t.ve, .int .i64 m.t.num, .slice m.sa m.t.slots.length m.sc, .slice m.qa m.t.queue.length m.qc, .int .i64 m.t.to]) (cs := #[.int .i64 m.t.kind, .int .i64 m.t.lab.s, .int .i64 m.t.lab.v, .int .i64 m.t.ve, .int .i64 m.t.num, .slice m.sa m.t.slots.length m.sc, .slice m.qa m.t.queue.length m.qc, .int .i64 m.t.to]) rfl rfl rfl ?_
 intro B101 w102 hN103
 have hlB101 := Yf hN103 hb0
 have hb104 := low0 hb0 hN103.grw
 refine Xh (v := .bool false) rfl rfl ?_
 refine Xa ?_
 refine Xt ?_
 refine Xb ?_
 refine Xd (o' := 0) Yt rfl rfl rfl ?_
 refine Xi (v := .int .i64 m.t.kind) X3 rfl (hN103.blk.cell rfl) rfl ?_
 refine Xa ?_
 refine Ye ?_
 refine Xt ?_
 refine Xb ?_
 refine X4 (q := decide (m.t.kind = 1)) rfl rfl rfl rfl ?_
 refine Xh (v := .bool (decide (m.t.kind = 1))) rfl rfl ?_
 refine Xa ?_
 refine Xw rfl (fun h105 => ?_) (fun h105 => ?_)
 ·
  have h106 := of_decide_eq_true h105
  refine Xy ?_
  refine Xv ?_
  refine Zc rfl h105 ?_
  refine Xb ?_
  refine Xd (o' := 4) Qm rfl rfl rfl ?_
  refine Xi (v := .int .i64 m.t.num) X3 rfl (hN103.blk.cell rfl) rfl ?_
  refine Xn (vs := [.int .i64 m.t.num, .int .i64 0, .int .i64 99]) Ju (Xg rfl (Xg rfl (Xg rfl Xm))) rfl (Z0 m.t.num 0 99 _) ?_
  rintro _ w107 ⟨rfl, hg108⟩
  have hb109 := low0 hb104 hg108
  refine Xh (v := .bool (inR m.t.num 0 99)) rfl rfl ?_
  refine Xa ?_
  refine Xs ?_
  refine Y6 ?_
  refine Yi ?_
  refine ⟨.bool (inR m.t.num 0 99), Yq rfl rfl, ?_, hb109⟩
  first | (simp [numOk, h106]; done) | (simp [numOk, h106]; omega) | (simp [numOk, h106]; intros; omega)
 ·
  have h110 := of_decide_eq_false h105
  refine X1 ?_
  refine X4 (q := decide (m.t.kind = 5)) rfl rfl rfl rfl ?_
  refine Xh (v := .bool (decide (m.t.kind = 5))) rfl rfl ?_
  refine Xa ?_
  refine Xv ?_
  refine Xw rfl (fun h111 => ?_) (fun h111 => ?_)
  ·
   have h112 := of_decide_eq_true h111
   refine Xb ?_
   refine Xd (o' := 4) Qm rfl rfl rfl ?_
   refine Xi (v := .int .i64 m.t.num) X3 rfl (hN103.blk.cell rfl) rfl ?_
   refine Xn (vs := [.int .i64 m.t.num, .int .i64 0, .int .i64 99]) Ju (Xg rfl (Xg rfl (Xg rfl Xm))) rfl (Z0 m.t.num 0 99 _) ?_
   rintro _ w113 ⟨rfl, hg114⟩
   have hb115 := low0 hb104 hg114
   refine Xh (v := .bool (inR m.t.num 0 99)) rfl rfl ?_
   refine Xa ?_
   refine Xs ?_
   refine Y6 ?_
   refine Yi ?_
   refine ⟨.bool (inR m.t.num 0 99), Yq rfl rfl, ?_, hb115⟩
   first | (simp [numOk, h110, h112]; done) | (simp [numOk, h110, h112]; omega) | (simp [numOk, h110, h112]; intros; omega)
  ·
   have h116 := of_decide_eq_false h111
   refine Xb ?_
   refine X4 (q := decide (m.t.kind = 3)) rfl rfl rfl rfl ?_
   refine Xh (v := .bool (decide (m.t.kind = 3))) rfl rfl ?_
   refine Xa ?_
   refine Xw rfl (fun h117 => ?_) (fun h117 => ?_)
   ·
    have h118 := of_decide_eq_true h117
    refine Xb ?_
    refine Xd (o' := 4) Qm rfl rfl rfl ?_
    refine Xi (v := .int .i64 m.t.num) X3 rfl (hN103.blk.cell rfl) rfl ?_
    refine Xn (vs := [.int .i64 m.t.num, .int .i64 (-4), .int .i64 99]) Ju (Xg rfl (Xg rfl (Xg rfl Xm))) rfl (Z0 m.t.num (-4) 99 _) ?_
    rintro _ w119 ⟨rfl, hg120⟩
    have hb121 := low0 hb104 hg120
    refine Xh (v := .bool (inR m.t.num (-4) 99)) rfl rfl ?_
    refine Xa ?_
    refine Xs ?_
    refine Y6 ?_
    refine Yi ?_
    refine ⟨.bool (inR m.t.num (-4) 99), Yq rfl rfl, ?_, hb121⟩
    first | (simp [numOk, h110, h116, h118]; done) | (simp [numOk, h110, h116, h118]; omega) | (simp [numOk, h110, h116, h118]; intros; omega)
   ·
    have h122 := of_decide_eq_false h117
    refine Xy ?_
    refine Yy ?_
    refine Xv ?_
    refine Xb ?_
    refine Xd (o' := 4) Qm rfl rfl rfl ?_
    refine Xi (v := .int .i64 m.t.num) X3 rfl (hN103.blk.cell rfl) rfl ?_
    refine X4 (q := decide (m.t.num = 0)) rfl rfl rfl rfl ?_
    refine Xh (v := .bool (decide (m.t.num = 0))) rfl rfl ?_
    refine Xa ?_
    refine Xs ?_
    refine ⟨.bool (decide (m.t.num = 0)), Yq rfl rfl, ?_, hb104⟩
    first | (simp [numOk, h110, h116, h122]; done) | (simp [numOk, h110, h116, h122]; omega) | (simp [numOk, h110, h116, h122]; intros; omega)
theorem Hw (m : MTh) (w : World) : CallsR Tryd.prog 86 #[.agg #[.int .i64 m.t.kind, .int .i64 m.t.lab.s, .int .i64 m.t.lab.v, .int .i64 m.t.ve, .int .i64 m.t.num, .slice m.sa m.t.slots.length m.sc, .slice m.qa m.t.queue.length m.qc, .int .i64 m.t.to]] w (fun v w' => v = .bool (targetOk m.t) ∧ w.grownBy w' none) := by
 refine X0 (n := 12) Tryd.func86 rfl Tryd.ntmps86 rfl ?_
 have hb0 := World.grownBy.refl w none
 refine Xb ?_
 refine Yu (v := .agg #[.int .i64 m.t.kind, .int .i64 m.t.lab.s, .int .i64 m.t.lab.v, .int .i64 m.t.ve, .int .i64 m.t.num, .slice m.sa m.t.slots.length m.sc, .slice m.qa m.t.queue.length m.qc, .int .i64 m.t.to]) (cs := #[.int .i64 m.t.kind, .int .i64 m.t.lab.s, .int .i64 m.t.lab.v, .int .i64 m.t.ve, .int .i64 m.t.num, .slice m.sa m.t.slots.length m.sc, .slice m.qa m.t.queue.length m.qc, .int .i64 m.t.to]) rfl rfl rfl ?_
 intro B101 w102 hN103
 have hlB101 := Yf hN103 hb0
 have hb104 := low0 hb0 hN103.grw
 refine Xh (v := .bool false) rfl rfl ?_
 refine Xa ?_
 refine Xt ?_
 refine Xb ?_
 refine Xd (o' := 0) Yt rfl rfl rfl ?_
 refine Xi (v := .int .i64 m.t.kind) X3 rfl (hN103.blk.cell rfl) rfl ?_
 refine X4 (q := decide (m.t.kind = 5)) rfl rfl rfl rfl ?_
 refine Xa ?_
 refine Xw rfl (fun h105 => ?_) (fun h105 => ?_)
 ·
  have h106 := of_decide_eq_true h105
  refine Xb ?_
  refine Xd (o' := 7) Q6 rfl rfl rfl ?_
  refine Xi (v := .int .i64 m.t.to) X3 rfl (hN103.blk.cell rfl) rfl ?_
  refine Xn (vs := [.int .i64 m.t.to, .int .i64 1, .int .i64 8]) Ju (Xg rfl (Xg rfl (Xg rfl Xm))) rfl (Z0 m.t.to 1 8 _) ?_
  rintro _ w107 ⟨rfl, hg108⟩
  have hb109 := low0 hb104 hg108
  refine Xh (v := .bool (inR m.t.to 1 8)) rfl rfl ?_
  refine Xa ?_
  refine Xs ?_
  refine Yi ?_
  refine ⟨.bool (inR m.t.to 1 8), Yq rfl rfl, ?_, hb109⟩
  first | (simp [targetOk, h106]; done) | (simp [targetOk, h106]; omega) | (simp [targetOk, h106]; intros; omega)
 ·
  have h110 := of_decide_eq_false h105
  refine Xy ?_
  refine Xv ?_
  refine Xb ?_
  refine Xd (o' := 7) Q6 rfl rfl rfl ?_
  refine Xi (v := .int .i64 m.t.to) X3 rfl (hN103.blk.cell rfl) rfl ?_
  refine X4 (q := decide (m.t.to = 0)) rfl rfl rfl rfl ?_
  refine Xh (v := .bool (decide (m.t.to = 0))) rfl rfl ?_
  refine Xa ?_
  refine Xs ?_
  refine ⟨.bool (decide (m.t.to = 0)), Yq rfl rfl, ?_, hb104⟩
  first | (simp [targetOk, h110]; done) | (simp [targetOk, h110]; omega) | (simp [targetOk, h110]; intros; omega)
theorem Nq (m : MTh) (w : World) (hs : SlAt w m.sa 5 (m.t.slots.map Rt.cells)) (hq : SlAt w m.qa 1 (m.t.queue.map icell)) (hsl : m.t.slots.length ≤ 9223372036854775806) (hql : m.t.queue.length ≤ 9223372036854775806) : CallsR Tryd.prog 85 #[.agg #[.int .i64 m.t.kind, .int .i64 m.t.lab.s, .int .i64 m.t.lab.v, .int .i64 m.t.ve, .int .i64 m.t.num, .slice m.sa m.t.slots.length m.sc, .slice m.qa m.t.queue.length m.qc, .int .i64 m.t.to]] w (fun v w' => v = .bool (queueOk m.t) ∧ w.grownBy w' none) := by
 refine X0 (n := 27) Tryd.func85 rfl Tryd.ntmps85 rfl ?_
 have hb0 := World.grownBy.refl w none
 refine Xb ?_
 refine Yu (v := .agg #[.int .i64 m.t.kind, .int .i64 m.t.lab.s, .int .i64 m.t.lab.v, .int .i64 m.t.ve, .int .i64 m.t.num, .slice m.sa m.t.slots.length m.sc, .slice m.qa m.t.queue.length m.qc, .int .i64 m.t.to]) (cs := #[.int .i64 m.t.kind, .int .i64 m.t.lab.s, .int .i64 m.t.lab.v, .int .i64 m.t.ve, .int .i64 m.t.num, .slice m.sa m.t.slots.length m.sc, .slice m.qa m.t.queue.length m.qc, .int .i64 m.t.to]) rfl rfl rfl ?_
 intro B101 w102 hN103
 have hlB101 := Yf hN103 hb0
 have hb104 := low0 hb0 hN103.grw
 refine Xh (v := .bool false) rfl rfl ?_
 refine Xa ?_
 refine Xt ?_
 refine Xb ?_
 refine Xd (o' := 0) Yt rfl rfl rfl ?_
 refine Xi (v := .int .i64 m.t.kind) X3 rfl (hN103.blk.cell rfl) rfl ?_
 refine Y7 (q := !(decide (m.t.kind = 4))) rfl rfl rfl rfl ?_
 refine Xa ?_
 refine Xw rfl (fun h105 => ?_) (fun h105 => ?_)
 ·
  have h106 := Zn h105
  have h107 := of_decide_eq_false h106
  refine Xb ?_
  refine Xd (o' := 6) Qw rfl rfl rfl ?_
  refine Xi (v := .slice m.qa m.t.queue.length m.qc) Jo rfl (hN103.blk.cell rfl) rfl ?_
  refine Ym (by kernel_rfl) rfl rfl ?_
  refine X4 (q := decide ((m.t.queue.length : Int) = 0)) rfl rfl rfl rfl ?_
  refine Xh (v := .bool (decide ((m.t.queue.length : Int) = 0))) rfl rfl ?_
  refine Xa ?_
  refine Xs ?_
  refine Yi ?_
  refine ⟨.bool (decide ((m.t.queue.length : Int) = 0)), Yq rfl rfl, ?_, hb104⟩
  first | (simp [queueOk, h107]; done) | (simp [queueOk, h107]; omega) | (simp [queueOk, h107]; intros; omega)
 ·
  have h108 := Zh h105
  have h109 := of_decide_eq_true h108
  refine Xy ?_
  refine Xv ?_
  refine Xt ?_
  refine Xb ?_
  refine Xd (o' := 6) Qw rfl rfl rfl ?_
  refine Xi (v := .slice m.qa m.t.queue.length m.qc) Jo rfl (hN103.blk.cell rfl) rfl ?_
  refine Ym (by kernel_rfl) rfl rfl ?_
  refine Zq (q := decide (3 < (m.t.queue.length : Int))) rfl rfl rfl rfl ?_
  refine Xa ?_
  refine Xw rfl (fun h110 => ?_) (fun h110 => ?_)
  ·
   have h111 := of_decide_eq_true h110
   refine Xb ?_
   refine Xh (v := .bool false) rfl rfl ?_
   refine Xa ?_
   refine Xs ?_
   refine Yi ?_
   refine ⟨.bool false, Yq rfl rfl, ?_, hb104⟩
   first | (simp [queueOk, h109, h111]; done) | (simp [queueOk, h109, h111]; omega) | (simp [queueOk, h109, h111]; intros; omega)
  ·
   have h112 := of_decide_eq_false h110
   refine Xy ?_
   refine Xv ?_
   refine Xt ?_
   refine Xb ?_
   refine Xd (o' := 6) Qw rfl rfl rfl ?_
   refine Xi (v := .slice m.qa m.t.queue.length m.qc) Jo rfl (hN103.blk.cell rfl) rfl ?_
   refine Ym (by kernel_rfl) rfl rfl ?_
   refine Xc (v := .int .i64 0) rfl rfl ?_
   refine Xa ?_
   refine Ye ?_
   refine Zd (fun mm f' w' => ∃ (k : Nat), mm = m.t.queue.length - k ∧ k ≤ m.t.queue.length ∧ ((m.t.queue.take k).all numQ) = true ∧ f' 19 = .int .i64 (k : Int) ∧ f' 17 = .slice m.qa m.t.queue.length m.qc ∧ f' 18 = .int .i64 (m.t.queue.length : Int) ∧ w.grownBy w' none) (m.t.queue.length - 0) ⟨0, rfl, (Nat.zero_le _), rfl, rfl, rfl, rfl, hb104⟩ ?_
   rintro mm f113 w114 ⟨k, hm116, hk, ha, e117, e118, e119, hb115⟩
   refine Xb ?_
   refine Y4 (q := decide ((k : Int) < (m.t.queue.length : Int))) e117 e119 rfl rfl ?_
   refine Xa ?_
   refine Xt ?_
   refine Xw rfl (fun h120 => ?_) (fun h120 => ?_)
   ·
    have h121 := of_decide_eq_true h120
    refine Xy ?_
    refine Xv ?_
    refine Xt ?_
    refine Ye ?_
    refine Xb ?_
    obtain ⟨x122, hx123⟩ := Zf (l := m.t.queue) (i := k) (by omega)
    obtain ⟨b124, q125, o126, ha127, ho128, hr129⟩ := SlAt.at hq (Yn hx123)
    refine Yd Qa e118 e117 ha127 ho128 (by omega) (by omega) rfl ?_
    refine Xi (v := .int .i64 x122) X3 rfl ((Yo hr129 hb115) 0 _ rfl) rfl ?_
    refine Xh (v := .int .i64 x122) rfl rfl ?_
    refine Xa ?_
    refine Xb ?_
    refine Xc (v := .int .i64 x122) rfl rfl ?_
    refine Xn (vs := [.int .i64 x122, .int .i64 0, .int .i64 99]) Ju (Xg rfl (Xg rfl (Xg rfl Xm))) rfl (Z0 x122 0 99 _) ?_
    rintro _ w130 ⟨rfl, hg131⟩
    have hb132 := low0 hb115 hg131
    refine Yk (b' := !inR x122 0 99) rfl rfl rfl ?_
    refine Xa ?_
    refine Xw rfl (fun h133 => ?_) (fun h133 => ?_)
    ·
     have h134 := Zn h133
     refine Xb ?_
     refine Xh (v := .bool false) rfl rfl ?_
     refine Xa ?_
     refine Xs ?_
     refine Y6 ?_
     refine Yi ?_
     refine Yi ?_
     refine Y6 ?_
     refine Yi ?_
     refine ⟨.bool false, Yq rfl rfl, ?_, hb132⟩
     simp [queueOk, h109, h112, h121, Qo (p := numQ) hx123 h134]
    ·
     have h135 := Zh h133
     refine Xy ?_
     refine Yy ?_
     refine Xv ?_
     refine X1 ?_
     refine Yx (c := (k : Int) + 1) e117 rfl (by omega) (by omega) (by omega) rfl ?_
     refine Xc (v := .int .i64 ((k : Int) + 1)) rfl rfl ?_
     refine Xa ?_
     refine Xv ?_
     exact ⟨m.t.queue.length - (k + 1), by omega, (k + 1), rfl, (by omega), (Qj (p := numQ) ha hx123 h135), rfl, e118, e119, hb132⟩
   ·
    have h136 := of_decide_eq_false h120
    refine Y5 ?_
    refine Y2 ?_
    refine Y2 ?_
    refine Z1 ?_
    refine Xv ?_
    refine Xb ?_
    refine Xh (v := .bool true) rfl rfl ?_
    refine Xa ?_
    refine Xs ?_
    refine ⟨.bool true, Yq rfl rfl, ?_, hb115⟩
    simp [queueOk, h109, h112, h136, Qz (p := numQ) ha (by omega)]; omega
end Go.Proofs.YtfoplmgoiblkgaaDoor
end
