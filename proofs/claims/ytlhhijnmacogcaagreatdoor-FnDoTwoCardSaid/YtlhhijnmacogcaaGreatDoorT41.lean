/- Laws and walks: my templates, and what a program of mine (gen.py) printed out of the functions; only what the row reaches. -/
import Derived.WalkKit
import Derived.Lib.Hide
import Derived.KernelRfl
import Derived.Orders
import Derived.Deep.MidRow
import Derived.IntWalk
import Derived.Laws.MakeOwn
import Derived.Maps.AppendAt
import Derived.Laws.OwnMore
import Derived.RangeFuncNested
import Derived.RangeFuncCalls
import Derived.RangeFuncLeaves
import Derived.RangeFuncBound
import Derived.Shelf.Abstract
import Derived.LoopIn
import Derived.LoopNIn
import Derived.OrdersIn
import Derived.LaidEql
import Derived.Stop.Asserts
import Derived.RowKitTokens
import Derived.ProofKit
import Derived.Deep.Slices
import Derived.Carry
import Derived.ChangeSame
import Derived.ChangeVars
import Derived.JoinedOf
import Derived.RowKit
import Derived.LaidLaws
import Derived.LaidHandle
import Derived.Stop.Joined
import Derived.Test.YtlhhijnmacogcaaGreatDoorProg
import Derived.Test.YtlhhijnmacogcaaGreatDoorTie
import Derived.Test.YtlhhijnmacogcaaGreatDoorCards
namespace Go.Dw
abbrev vi (n : Int) : Value := .int .i64 n
abbrev pt (b o : Nat) : Value := .pointer (some ⟨b, o, none⟩)
abbrev pa (b : Nat) : Option Addr := some ⟨b, 0, none⟩
abbrev vb (b : Bool) : Value := .bool b
theorem Z.{u} {α : Sort u} {a : α} : a = a := rfl
theorem lq (a b : Nat) (h : a < b := by omega) : a < b := h
theorem nt {a b c : Nat} (h : a ≤ b) (k : b ≤ c) : a ≤ c := Nat.le_trans h k
theorem nl {a b c : Nat} (h : a < b) (k : b ≤ c) : a < c := Nat.lt_of_lt_of_le h k
theorem cB {a b : Bool} (h : a = b) : Value.bool a = Value.bool b := congrArg Value.bool h
end Go.Dw
section
namespace Go.Dw
structure Lab where
  s : Int
  v : Int
  deriving DecidableEq
structure Rt where
  th : Int
  ve : Int
  rd : Bool
  wr : Bool
  wk : Bool
  deriving DecidableEq
def Rt.zero : Rt := ⟨0, 0, false, false, false⟩
def Rt.cells (r : Rt) : List Value := [.int .i64 r.th, .int .i64 r.ve, .bool r.rd, .bool r.wr, .bool r.wk]
def Lab.cells (l : Lab) : List Value := [.int .i64 l.s, .int .i64 l.v]
def inR (n lo hi : Int) : Bool := decide (lo ≤ n) && decide (n ≤ hi)
def labelOk (l : Lab) : Bool := inR l.s 0 3 && inR l.v 0 3
def l1In (a b : Int) : Bool := decide (a % 2 ≤ b % 2) && decide (a / 2 ≤ b / 2)
def flow (a b : Lab) : Bool := l1In a.s b.s && l1In b.v a.v
def labelFlow (a b : Lab) : Bool := labelOk a && labelOk b && flow a b
theorem Vr (l : Lab) : labelOk l = true ↔ (0 ≤ l.s ∧ l.s ≤ 3) ∧ 0 ≤ l.v ∧ l.v ≤ 3 := by simp [labelOk, inR]
theorem Ns (a b : Int) (ha : 0 ≤ a) (ha3 : a ≤ 3) (hb : 0 ≤ b) (hb3 : b ≤ 3) : decide (bits .andNot .u64 a b = 0) = l1In a b := by
  have h1 : a = 0 ∨ a = 1 ∨ a = 2 ∨ a = 3 := by omega
  have h2 : b = 0 ∨ b = 1 ∨ b = 2 ∨ b = 3 := by omega
  rcases h1 with rfl | rfl | rfl | rfl <;> rcases h2 with rfl | rfl | rfl | rfl <;> decide
theorem N3 {a b : Lab} (h : ((!labelOk a) || (!labelOk b)) = true) : labelFlow a b = false := by
  unfold labelFlow
  cases ha : labelOk a <;> cases hb : labelOk b <;> simp_all
theorem Lx {a b : Lab} (ha : labelOk a = true) (hb : labelOk b = true) : (decide (bits .andNot .u64 a.s b.s = 0) && decide (bits .andNot .u64 b.v a.v = 0)) = labelFlow a b := by
  obtain ⟨⟨h1, h2⟩, h3, h4⟩ := (Vr a).1 ha
  obtain ⟨⟨h5, h6⟩, h7, h8⟩ := (Vr b).1 hb
  rw [Ns _ _ h1 h2 h5 h6, Ns _ _ h7 h8 h3 h4, labelFlow, ha, hb]
  rfl
def rightOk (r : Rt) : Bool := decide (r = Rt.zero) || (inR r.th 1 8 && inR r.ve 0 5 && !(r.wk && r.wr))
def l2Less (r : Rt) (rd wr st : Bool) : Rt := if r.th = 0 then r else ⟨r.th, r.ve, r.rd && rd, r.wr && wr && st, r.wk || !st⟩
def rightLess (r : Rt) (rd wr st : Bool) : Rt := if rightOk r then l2Less r rd wr st else Rt.zero
theorem Nh {r : Rt} (h : decide (r.th = 0) = true) : decide (r = Rt.zero) = rightOk r := by
  have h' : r.th = 0 := of_decide_eq_true h
  unfold rightOk inR
  simp [h']
theorem Mb {r : Rt} (h : decide (r.th = 0) = false) : (inR r.th 1 8 && inR r.ve 0 5 && !(r.wk && r.wr)) = rightOk r := by
  have h' : ¬ r.th = 0 := of_decide_eq_false h
  have h2 : r ≠ Rt.zero := fun e => h' (by rw [e]; rfl)
  unfold rightOk
  simp [h2]
theorem Rp {r : Rt} {a b c : Bool} (h : decide (r.th = 0) = true) : l2Less r a b c = r := by
  simp [l2Less, of_decide_eq_true h]
theorem Ro {r : Rt} {a b c : Bool} (h : decide (r.th = 0) = false) : l2Less r a b c = ⟨r.th, r.ve, r.rd && a, r.wr && b && c, r.wk || !c⟩ := by
  simp [l2Less, of_decide_eq_false h]
theorem Uf {r : Rt} {a b c : Bool} (h : rightOk r = true) : rightLess r a b c = l2Less r a b c := by simp [rightLess, h]
theorem Hl {r : Rt} {a b c : Bool} (h : rightOk r = false) : rightLess r a b c = Rt.zero := by simp [rightLess, h]
theorem Ly {α : Type} {p : α → Bool} {l : List α} {k : Nat} {x : α} (h : (l.take k).any p = false) (hx : l[k]? = some x) (hp : p x = false) : (l.take (k + 1)).any p = false := by
  rw [List.take_add_one, List.any_append, h, hx]
  simp [hp]
theorem P2 {α : Type} {p : α → Bool} {l : List α} {k : Nat} {x : α} (hx : l[k]? = some x) (hp : p x = true) : l.any p = true :=
  List.any_eq_true.2 ⟨x, List.mem_of_getElem? hx, hp⟩
theorem P1 {α : Type} {p : α → Bool} {l : List α} {k : Nat} (h : (l.take k).any p = false) (hk : l.length ≤ k) : l.any p = false := by
  rwa [List.take_of_length_le hk] at h
theorem U8 {α : Type} {l m : List α} {k : Nat} {x y : α} (h : l.take k = m.take k) (hx : l[k]? = some x) (hy : m[k]? = some y) (e : x = y) : l.take (k + 1) = m.take (k + 1) := by
  rw [List.take_add_one, List.take_add_one, h, hx, hy, e]
theorem W9 {α : Type} {l m : List α} {k : Nat} (h : l.take k = m.take k) (hl : l.length ≤ k) (hm : m.length ≤ k) : l = m := by
  rwa [List.take_of_length_le hl, List.take_of_length_le hm] at h
theorem Lg {α : Type} {l m : List α} {k : Nat} {x y : α} (hx : l[k]? = some x) (hy : m[k]? = some y) (e : ¬ x = y) : ¬ l = m := fun h => e (by
  rw [h, hy] at hx
  exact (Option.some.inj hx).symm)
structure Th where
  kind : Int
  lab : Lab
  ve : Int
  num : Int
  slots : List Rt
  queue : List Int
  to : Int
  deriving DecidableEq
structure MTh where
  t : Th
  sa : Option Addr
  sc : Nat
  qa : Option Addr
  qc : Nat
structure Cl where
  kind : Int
  run : Int
  a : Int
  b : Int
  n : Int
  deriving DecidableEq
def Cl.cells (c : Cl) : List Value := [.int .i64 c.kind, .int .i64 c.run, .int .i64 c.a, .int .i64 c.b, .int .i64 c.n]
def icell (n : Int) : List Value := [.int .i64 n]
def MTh.cells (m : MTh) : List Value :=
  [.int .i64 m.t.kind, .int .i64 m.t.lab.s, .int .i64 m.t.lab.v, .int .i64 m.t.ve, .int .i64 m.t.num, .slice m.sa m.t.slots.length m.sc, .slice m.qa m.t.queue.length m.qc, .int .i64 m.t.to]
def versOk (t : Th) : Bool := if t.kind = 1 ∨ t.kind = 2 ∨ t.kind = 4 then inR t.ve 0 5 else decide (t.ve = 0)
def numOk (t : Th) : Bool := if t.kind = 1 ∨ t.kind = 5 then inR t.num 0 99 else if t.kind = 3 then inR t.num (-4) 99 else decide (t.num = 0)
def slotsOk (t : Th) : Bool := if t.kind = 2 ∨ t.kind = 3 then decide (t.slots.length = 4) && t.slots.all rightOk else decide (t.slots.length = 0)
def numQ (n : Int) : Bool := inR n 0 99
def queueOk (t : Th) : Bool := if t.kind = 4 then decide (t.queue.length ≤ 3) && t.queue.all numQ else decide (t.queue.length = 0)
def targetOk (t : Th) : Bool := if t.kind = 5 then inR t.to 1 8 else decide (t.to = 0)
def thingOk (t : Th) : Bool := inR t.kind 1 5 && labelOk t.lab && versOk t && numOk t && slotsOk t && queueOk t && targetOk t
theorem Kn {α : Type} {p : α → Bool} {l : List α} {k : Nat} {x : α} (h : (l.take k).all p = true) (hx : l[k]? = some x) (hp : p x = true) : (l.take (k + 1)).all p = true := by
  rw [List.take_add_one, List.all_append, h, hx]
  simp [hp]
theorem Kp {α : Type} {p : α → Bool} {l : List α} {k : Nat} {x : α} (hx : l[k]? = some x) (hp : p x = false) : l.all p = false := by
  cases h : l.all p with
  | false => rfl
  | true => rw [List.all_eq_true.1 h x (List.mem_of_getElem? hx)] at hp; cases hp
theorem Ku {α : Type} {p : α → Bool} {l : List α} {k : Nat} (h : (l.take k).all p = true) (hk : l.length ≤ k) : l.all p = true := by
  rwa [List.take_of_length_le hk] at h
theorem Mi {t : Th} (h : (!decide (t.kind = 2) && !decide (t.kind = 3)) = true) : slotsOk t = decide ((t.slots.length : Int) = 0) := by
  have h' : ¬ (t.kind = 2 ∨ t.kind = 3) := by simp at h; omega
  unfold slotsOk
  rw [if_neg h', decide_eq_decide]
  omega
theorem G8 {t : Th} (h : (!decide (t.kind = 2) && !decide (t.kind = 3)) = false) : slotsOk t = (decide ((t.slots.length : Int) = 4) && t.slots.all rightOk) := by
  have h' : t.kind = 2 ∨ t.kind = 3 := by simp at h; omega
  unfold slotsOk
  rw [if_pos h']
  congr 1
  rw [decide_eq_decide]
  omega
end Go.Dw
end
section
namespace Go.Dw
open Go.RowKit
abbrev Fr := Nat → Value
def up (f : Fr) (d : Nat) (v : Value) : Fr := fun i => bif Nat.beq i d then v else f i
theorem Nr (f : Fr) (d : Nat) (v : Value) (i : Nat) : up f d v i = if i = d then v else f i := by
  unfold up
  by_cases h : i = d
  · subst h; simp
  · have : Nat.beq i d = false := by
      cases hb : Nat.beq i d with
      | false => rfl
      | true => exact absurd (Nat.eq_of_beq_eq_true hb) h
    simp [this, h]
def ev (f : Fr) : Operand → Value
  | .tmp t => f t
  | .const v => v
  | .global g => .pointer (some ⟨g, 0, none⟩)
  | .func k => .func (.func k) #[] #[]
structure FEq (n : Nat) (a : Act) (f : Fr) : Prop where
  defers : a.defers = []
  size : a.tmps.size = n
  at_ : ∀ i, a.tmps.getD i undef = f i
theorem FEq.eval {n : Nat} {a : Act} {f : Fr} (h : FEq n a f) : a.eval = ev f := by
  funext x
  cases x with
  | tmp t => exact h.at_ t
  | const v => rfl
  | global g => rfl
  | func k => rfl
theorem FEq.put {n : Nat} {a : Act} {f : Fr} (h : FEq n a f) {d : Nat} (hd : Nat.blt d n = true) (v : Value) : FEq n (a.put (some d) v) (up f d v) := by
  have hd' : d < n := by simpa [Nat.blt_eq] using hd
  refine ⟨h.defers, by simp [Act.put, h.size], fun i => ?_⟩
  rw [Nr, ← h.at_ i]
  by_cases hi : i = d
  · subst hi
    simp [Act.put, Array.getD, h.size, hd']
  · have hne : d ≠ i := fun e => hi e.symm
    simp [Act.put, hi, Array.getElem?_setIfInBounds_ne hne]
def upo (f : Fr) : Option Nat → Value → Fr
  | some d, v => up f d v
  | none, _ => f
def okd (n : Nat) : Option Nat → Bool
  | some d => Nat.blt d n
  | none => true
theorem FEq.puto {n : Nat} {a : Act} {f : Fr} (h : FEq n a f) {d : Option Nat} (hd : okd n d = true) (v : Value) : FEq n (a.put d v) (upo f d v) := by
  cases d with
  | none => exact h
  | some d => exact h.put hd v
def Wpf (P : Program) (n : Nat) (Q : Exit → Fr → World → Prop) (c : Code) (f : Fr) (w : World) : Prop :=
  ∀ a, FEq n a f → c.wp P (fun e a' w' => ∃ f', FEq n a' f' ∧ Q e f' w') a w
def thn (K : Fr → World → Prop) (Q : Exit → Fr → World → Prop) : Exit → Fr → World → Prop
  | .normal, f, w => K f w
  | e, f, w => Q e f w
def blk (id : Nat) (Q : Exit → Fr → World → Prop) : Exit → Fr → World → Prop
  | .exit i, f, w => if i = id then Q .normal f w else Q (.exit i) f w
  | e, f, w => Q e f w
section
variable {P : Program} {n : Nat} {Q : Exit → Fr → World → Prop} {f : Fr} {w : World}
theorem Wpf.mono {Q' : Exit → Fr → World → Prop} {c : Code} (h : Wpf P n Q c f w) (hq : ∀ e f w, Q e f w → Q' e f w) : Wpf P n Q' c f w :=
  fun a ha => wp_mono (h a ha) fun _ _ _ ⟨f', hf, hQ⟩ => ⟨f', hf, hq _ _ _ hQ⟩
theorem Xz (h : Q .normal f w) : Wpf P n Q .skip f w := fun _ ha => wp_skip ⟨f, ha, h⟩
theorem Xt (h : Q .ret f w) : Wpf P n Q .ret f w := fun _ ha => wp_ret ⟨f, ha, h⟩
theorem Qf {id : Nat} (h : Q (.exit id) f w) : Wpf P n Q (.exit id) f w := fun _ ha => wp_exit ⟨f, ha, h⟩
theorem Xq {x y : Code} (h : Wpf P n (thn (Wpf P n Q y) Q) x f w) : Wpf P n Q (.seq x y) f w := fun a ha =>
  wp_seq (wp_mono (h a ha) fun e a' w' ⟨f', hf, hQ⟩ => by
    cases e with
    | normal => exact hQ a' hf
    | exit i => exact ⟨f', hf, hQ⟩
    | goto l => exact ⟨f', hf, hQ⟩
    | ret => exact ⟨f', hf, hQ⟩
    | panic c => exact ⟨f', hf, hQ⟩
    | outgrown => exact ⟨f', hf, hQ⟩)
theorem Kj {x y : Code} (M : Fr → World → Prop) (h : Wpf P n (thn M Q) x f w) (hM : ∀ f w, M f w → Wpf P n Q y f w) : Wpf P n Q (.seq x y) f w :=
  Xq (h.mono fun e f w hq => by cases e <;> first | exact hM _ _ hq | exact hq)
theorem X9 {id : Nat} {c : Code} (h : Wpf P n (blk id Q) c f w) : Wpf P n Q (.block id c) f w := fun a ha =>
  wp_block (wp_mono (h a ha) fun e a' w' ⟨f', hf, hQ⟩ => by
    cases e with
    | exit i =>
      simp only [blk] at hQ
      simp only [Exit.inBlock]
      by_cases hi : i = id
      · rw [if_pos hi] at hQ ⊢; exact ⟨f', hf, hQ⟩
      · rw [if_neg hi] at hQ ⊢; exact ⟨f', hf, hQ⟩
    | normal => exact ⟨f', hf, hQ⟩
    | goto l => exact ⟨f', hf, hQ⟩
    | ret => exact ⟨f', hf, hQ⟩
    | panic c => exact ⟨f', hf, hQ⟩
    | outgrown => exact ⟨f', hf, hQ⟩)
theorem X0 {c : Operand} {x y : Code} {b : Bool} (hc : ev f c = .bool b) (ht : b = true → Wpf P n Q x f w) (hf : b = false → Wpf P n Q y f w) :
    Wpf P n Q (.cond c x y) f w := fun a ha =>
  wp_cond_split (t := b) (by rw [ha.eval]; exact hc) (fun h => ht h a ha) (fun h => hf h a ha)
theorem Qa {c : Operand} {x y : Code} {b : Bool} (hc : ev f c = .bool b) (hb : b = true) (h : Wpf P n Q x f w) : Wpf P n Q (.cond c x y) f w :=
  X0 hc (fun _ => h) (fun e => by rw [hb] at e; cases e)
theorem Y4 {c : Operand} {x y : Code} {b : Bool} (hc : ev f c = .bool b) (hb : b = false) (h : Wpf P n Q y f w) : Wpf P n Q (.cond c x y) f w :=
  X0 hc (fun e => by rw [hb] at e; cases e) (fun _ => h)
theorem Xu {K : Fr → World → Prop} (h : K f w) : thn K Q .normal f w := h
theorem Yk {K : Fr → World → Prop} (h : Q .ret f w) : thn K Q .ret f w := h
theorem Y9 {K : Fr → World → Prop} {i : Nat} (h : Q (.exit i) f w) : thn K Q (.exit i) f w := h
theorem Y3 {id : Nat} (h : Q .normal f w) : blk id Q .normal f w := h
theorem Qn {id : Nat} (h : Q .ret f w) : blk id Q .ret f w := h
theorem Jh {id : Nat} (h : Q .normal f w) : blk id Q (.exit id) f w := by simpa [blk] using h
theorem Xcd {id i : Nat} (hi : i ≠ id) (h : Q (.exit i) f w) : blk id Q (.exit i) f w := by simpa [blk, hi] using h
theorem Ql {c : Code} (I : Nat → Fr → World → Prop) (m₀ : Nat) (h₀ : I m₀ f w)
    (round : ∀ m f w, I m f w → Wpf P n (thn (fun f' w' => ∃ m', m' < m ∧ I m' f' w') Q) c f w) : Wpf P n Q (.loop c) f w := by
  intro a ha b k cs
  have key : ∀ m f a w, I m f w → FEq n a f →
      ∃ e a' w', (∃ f', FEq n a' f' ∧ Q e f' w') ∧ Arrives P (lone (b.at a (.code c :: .inLoop c :: k)) cs w) b k cs e a' w' := by
    intro m
    induction m using Nat.strongRecOn with
    | _ m ih =>
      intro f a w hI ha
      obtain ⟨e, a₁, w₁, ⟨f₁, hf₁, hq⟩, harr⟩ := round m f w hI a ha b (.inLoop c :: k) cs
      cases e with
      | normal =>
        obtain ⟨m', hlt, hI₁⟩ := hq
        obtain ⟨e₂, a₂, w₂, hq₂, harr₂⟩ := ih m' hlt f₁ a₁ w₁ hI₁ hf₁
        exact ⟨e₂, a₂, w₂, hq₂, .of_steps (Steps.trans harr (.one step_inLoop)) harr₂⟩
      | exit id => exact ⟨_, a₁, w₁, ⟨f₁, hf₁, hq⟩, .pass (x := .inLoop c) rfl (fun _ _ => .inl (by simp)) harr⟩
      | goto l => exact ⟨_, a₁, w₁, ⟨f₁, hf₁, hq⟩, .pass (x := .inLoop c) rfl (fun _ _ => .inl (by simp)) harr⟩
      | ret => exact ⟨_, a₁, w₁, ⟨f₁, hf₁, hq⟩, .pass (x := .inLoop c) rfl (fun _ _ => .inl (by simp)) harr⟩
      | panic ch => exact ⟨_, a₁, w₁, ⟨f₁, hf₁, hq⟩, .pass (x := .inLoop c) rfl (fun _ _ => .inl (by simp)) harr⟩
      | outgrown => exact ⟨_, a₁, w₁, ⟨f₁, hf₁, hq⟩, .pass (x := .inLoop c) rfl (fun _ _ => .inl (by simp)) harr⟩
  obtain ⟨e, a', w', hq, harr⟩ := key m₀ f a w h₀ ha
  exact ⟨e, a', w', hq, .of_steps (.one step_loop) harr⟩
end
def lget : List Value → Nat → Value
  | [], _ => undef
  | v :: _, 0 => v
  | _ :: l, i + 1 => lget l i
theorem Hp : ∀ (l : List Value) (i : Nat), lget l i = l[i]?.getD undef
  | [], _ => by simp [lget]
  | v :: l, 0 => by simp [lget]
  | v :: l, i + 1 => by simp [lget, Hp l i]
def f0 (args : Array Value) : Fr := fun i => lget args.toList i
def resV (P : Program) (fn : Func) (f : Fr) (w : World) (v : Value) : Prop := ∀ tmps : Array Value, (∀ i, tmps.getD i undef = f i) → (results fn tmps).run P w = .ok v w
def endQ (P : Program) (fn : Func) (R : Value → World → Prop) : Exit → Fr → World → Prop
  | .normal, f, w | .ret, f, w => ∃ v, resV P fn f w v ∧ R v w
  | _, _, _ => False
theorem Xx {P : Program} {k : FuncId} {fn : Func} {c : Code} {args : Array Value} {w : World} {R : Value → World → Prop} {n : Nat}
    (hf : P.funcs[k]? = some fn) (hb : fn.body = some c) (hn : fn.ntmps = n) (hs : Nat.ble args.size n = true)
    (h : Wpf P n (endQ P fn R) c (f0 args) w) : Calls P k args w fun e w' => ∃ v, e = .returned v ∧ R v w' := by
  have hs' : args.size ≤ n := by simpa [Nat.ble_eq] using hs
  refine calls_of_wp hf hb ?_
  refine wp_mono (h _ ⟨rfl, by simp [hn]; omega, fun i => ?_⟩) fun e a w ⟨f', hf', hQ⟩ => ?_
  · simp only [f0, Hp, Array.getD_eq_getD_getElem?, Array.getElem?_toList]
    by_cases hi : i < args.size
    · rw [Array.getElem?_append_left hi]
    · rw [Array.getElem?_append_right (by omega), Array.getElem?_eq_none (by omega : args.size ≤ i)]
      by_cases h2 : i - args.size < fn.ntmps - args.size
      · simp [h2]
      · rw [Array.getElem?_eq_none (by simp; omega)]
  · cases e with
    | normal => obtain ⟨v, hv, hR⟩ := hQ; exact ⟨hf'.defers, v, hv _ hf'.at_, v, rfl, hR⟩
    | ret => obtain ⟨v, hv, hR⟩ := hQ; exact ⟨hf'.defers, v, hv _ hf'.at_, v, rfl, hR⟩
    | exit i => exact hQ.elim
    | goto l => exact hQ.elim
    | panic c => exact hQ.elim
    | outgrown => exact hQ.elim
theorem Xdl {P : Program} {fn : Func} {f : Fr} {w : World} (h : fn.results = #[]) : resV P fn f w (.tuple #[]) := fun _ _ => results_none h _ _ _
theorem Yt {P : Program} {fn : Func} {f : Fr} {w : World} {t : Nat} {v : Value} (h : fn.results = #[.tmp t]) (hv : f t = v) : resV P fn f w v := fun tm ht => by
  rw [results_tmp h, ht, hv]
theorem Gv {P : Program} {fn : Func} {f : Fr} {w : World} {t u : Nat} {v x : Value} (h : fn.results = #[.tmp t, .tmp u]) (hv : f t = v) (hx : f u = x) : resV P fn f w (.tuple #[v, x]) := fun tm ht => by
  rw [results_tmp2 h, ht, ht, hv, hx]
def WpO (P : Program) (n : Nat) (ops : Array Oper) (K : Fr → World → Prop) (l : List Oper) (f : Fr) (w : World) : Prop :=
  ∀ a, FEq n a f → ∀ Q : Exit → Act → World → Prop, (∀ a' w' f', FEq n a' f' → K f' w' → Q .normal a' w') → wpList P ops Q l a w
section
variable {P : Program} {n : Nat} {ops : Array Oper} {K : Fr → World → Prop} {l : List Oper} {f : Fr} {w w' : World} {o : Oper} {v : Value}
theorem WpO.mono {K' : Fr → World → Prop} (h : WpO P n ops K l f w) (hk : ∀ f w, K f w → K' f w) : WpO P n ops K' l f w :=
  fun a ha Q hQ => h a ha Q fun a' w' f' hf hK => hQ a' w' f' hf (hk _ _ hK)
theorem X2 {id : Nat} {Q : Exit → Fr → World → Prop} (h : WpO P n l.toArray (Q .normal) l f w) : Wpf P n Q (.region id l.toArray false) f w := fun a ha =>
  wp_region_lit (h a ha _ fun _ _ f' hf hK => ⟨f', hf, hK⟩)
theorem Xa {id : Nat} {Q : Exit → Fr → World → Prop} {y : Code} (h : WpO P n l.toArray (Wpf P n Q y) l f w) : Wpf P n Q (.seq (.region id l.toArray false) y) f w :=
  Xq (X2 h)
theorem Ya {id : Nat} {Q : Exit → Fr → World → Prop} {y : Code} (M : Fr → World → Prop) (h : WpO P n l.toArray M l f w) (hM : ∀ f w, M f w → Wpf P n Q y f w) : Wpf P n Q (.seq (.region id l.toArray false) y) f w :=
  Xa (h.mono hM)
theorem Xb (h : K f w) : WpO P n ops K [] f w := fun a ha _ hQ => hQ a w f ha h
theorem Zu {l l' : List Oper} (h : WpO P n ops (WpO P n ops K l') l f w) : WpO P n ops K (l ++ l') f w := by
  intro a ha Q hQ
  have h1 := h a ha (fun e a' w' => match e with | .normal => wpList P ops Q l' a' w' | _ => False) (fun a' w' f' hf hK => hK a' hf Q hQ)
  clear h ha
  induction l generalizing a w with
  | nil => exact h1
  | cons o l ih =>
    simp only [List.cons_append, wpList] at h1 ⊢
    split
    · rename_i hw
      rw [if_pos hw] at h1
      rcases h1 with h1 | ⟨_, a0, w0, h0⟩
      · left
        unfold Oper.wp at h1 ⊢
        generalize (execOp a.eval o).run P w = r at h1 ⊢
        cases r with
        | ok x w' =>
          cases x <;> simp only [Oper.upon] at h1 ⊢
          case value v => exact ih _ h1
          case skip => exact ih _ h1
          case defer dd => exact ih _ h1
          case enter k args =>
            refine h1.mono fun e w'' he => ?_
            cases e with
            | returned v => exact ih _ he
            | panicked c => exact he.elim
            | outgrown => obtain ⟨_, _, h0⟩ := he; exact h0.elim
          case row rw args => exact h1.mono fun v w'' he => ih _ he
        | halt x w' => cases x <;> simp only [Oper.upon] at h1 ⊢
      · exact h0.elim
    · rename_i hw
      rw [if_neg hw] at h1
      exact ih _ h1
theorem Jc (hg : o.guard = none) (hd : okd n o.dst = true) (hr : (execOp (ev f) o).run P w = .ok (.value v) w') (h : WpO P n ops K l (upo f o.dst v) w') : WpO P n ops K (o :: l) f w :=
  fun a ha Q hQ => wpList_plain hg fun K' hK' => by
    unfold Oper.wp
    rw [ha.eval, hr]
    exact hK' _ _ (h _ (ha.puto hd v) Q hQ)
theorem Wv (hg : o.guard = none) (hd : o.dst = none) (hr : (execOp (ev f) o).run P w = .ok .skip w') (h : WpO P n ops K l f w') : WpO P n ops K (o :: l) f w :=
  fun a ha Q hQ => wpList_plain hg fun K' hK' => by
    unfold Oper.wp
    rw [ha.eval, hr]
    refine hK' _ _ (h _ ?_ Q hQ)
    rw [hd]
    exact ha
theorem Ha {k : FuncId} {args : Array Value} {R : Value → World → Prop} (hg : o.guard = none) (hd : okd n o.dst = true) (hr : (execOp (ev f) o).run P w = .ok (.enter k args) w')
    (hc : Calls P k args w' fun e w'' => ∃ v, e = .returned v ∧ R v w'') (h : ∀ v w'', R v w'' → WpO P n ops K l (upo f o.dst v) w'') : WpO P n ops K (o :: l) f w :=
  fun a ha Q hQ => wpList_plain hg fun K' hK' => by
    unfold Oper.wp
    rw [ha.eval, hr]
    show Calls P k args w' _
    refine hc.mono fun e w'' ⟨v, he, hR⟩ => ?_
    subst he
    exact hK' _ _ (h v w'' hR _ (ha.puto hd v) Q hQ)
theorem Lu {a : Act} (ha : FEq n a f) {j d : Nat} {oj : Oper} (hj : ops[j]? = some oj) (hdj : oj.dst = some d) {b : Bool} (hb : f d = .bool b) : yielded ops a.tmps j = some b := by
  have h1 := ha.at_ d
  rw [hb] at h1
  have h2 : a.tmps[d]? = some (.bool b) := by
    cases h3 : a.tmps[d]? with
    | none => rw [Array.getD_eq_getD_getElem?, h3] at h1; cases h1
    | some v => rw [Array.getD_eq_getD_getElem?, h3] at h1; simpa using h1
  simp [yielded, hj, hdj, h2]
theorem Lz {a : Act} (ha : FEq n a f) {j d : Nat} {oj : Oper} (hj : ops[j]? = some oj) (hdj : oj.dst = some d) (hb : f d = undef) : yielded ops a.tmps j = none := by
  have h1 := ha.at_ d
  rw [hb, Array.getD_eq_getD_getElem?] at h1
  simp only [yielded, hj, hdj, Option.bind_some]
  cases h3 : a.tmps[d]? with
  | none => rfl
  | some v =>
    rw [h3] at h1
    have : v = undef := h1
    subst this
    rfl
theorem Xg {d : Option Nat} {op : Op} {ty : TypeId} {pos : String} {aft : Array Edge} {j dj : Nat} {b b' : Bool} {oj : Oper} (hj : ops[j]? = some oj) (hdj : oj.dst = some dj) (hb : f dj = .bool b') (hbb : b' = b)
    (h : WpO P n ops K (⟨d, op, ty, pos, aft, none⟩ :: l) f w) : WpO P n ops K (⟨d, op, ty, pos, aft, some (j, b)⟩ :: l) f w := fun a ha Q hQ => by
  have h1 := h a ha Q hQ
  unfold wpList at h1 ⊢
  rw [if_pos (by simp [Region.wanted])] at h1
  rw [if_pos (by simp [Region.wanted, Lu ha hj hdj hb, hbb])]
  exact h1
theorem Xj {d : Nat} {op : Op} {ty : TypeId} {pos : String} {aft : Array Edge} {j dj : Nat} {b b' : Bool} {oj : Oper} (hj : ops[j]? = some oj) (hdj : oj.dst = some dj) (hb : f dj = .bool b') (hbb : b' = !b)
    (hd : Nat.blt d n = true) (h : WpO P n ops K l (up f d undef) w) : WpO P n ops K (⟨some d, op, ty, pos, aft, some (j, b)⟩ :: l) f w := fun a ha Q hQ => by
  have h1 := h _ (ha.put hd undef) Q hQ
  unfold wpList
  rw [if_neg (by simp [Region.wanted, Lu ha hj hdj hb, hbb])]
  exact h1
theorem Yu {d : Nat} {op : Op} {ty : TypeId} {pos : String} {aft : Array Edge} {j dj : Nat} {b : Bool} {oj : Oper} (hj : ops[j]? = some oj) (hdj : oj.dst = some dj) (hb : f dj = undef)
    (hd : Nat.blt d n = true) (h : WpO P n ops K l (up f d undef) w) : WpO P n ops K (⟨some d, op, ty, pos, aft, some (j, b)⟩ :: l) f w := fun a ha Q hQ => by
  have h1 := h _ (ha.put hd undef) Q hQ
  unfold wpList
  rw [if_neg (by simp [Region.wanted, Lz ha hj hdj hb])]
  exact h1
end
theorem b0 (x : Bool) : (x && true) = x := Bool.and_true x
theorem b1 (x : Bool) : (true && x) = x := Bool.true_and x
theorem b2 (x : Bool) : (x && false) = false := Bool.and_false x
theorem b3 (x : Bool) : (false && x) = false := Bool.false_and x
theorem b4 (x : Bool) : (x || true) = true := Bool.or_true x
theorem b5 (x : Bool) : (true || x) = true := Bool.true_or x
theorem b6 (x : Bool) : (x || false) = x := Bool.or_false x
theorem b7 (x : Bool) : (false || x) = x := Bool.false_or x
theorem b8 : (!true) = false := rfl
theorem b9 : (!false) = true := rfl
end Go.Dw
end
section
namespace Go.Dw
open Go.RowKit
def Blk (w : World) (b : Nat) (T : TypeId) (cs : Array Value) : Prop := w.heap[b]? = some (.cells cs T (0, 0))
section
variable {w w' : World} {b : Nat} {T : TypeId} {cs : Array Value}
theorem Blk.lt (h : Blk w b T cs) : b < w.heap.size := (Array.getElem?_eq_some_iff.1 h).1
theorem Blk.cell (h : Blk w b T cs) {i : Nat} {v : Value} (hv : cs[i]? = some v) : w.cell? ⟨b, i, none⟩ = some v := by
  unfold Blk at h
  simp [World.cell?, h, hv]
theorem Blk.froz (h : Blk w b T cs) (i : Nat) : w.frozen? ⟨b, i, none⟩ = false := by
  unfold Blk at h
  simp [World.frozen?, h]
theorem Blk.range (h : Blk w b T cs) {o : Nat} {vs : List Value} (hv : ∀ j v, vs[j]? = some v → cs[o + j]? = some v) : w.rangeAt b o vs := fun j v hj => h.cell (hv j v hj)
theorem Blk.all (h : Blk w b T cs) : w.rangeAt b 0 cs.toList := h.range fun j v hj => by simpa using hj
theorem Blk.grown (h : Blk w b T cs) {r : Option Nat} (hg : w.grownBy w' r) (hne : some b ≠ r) : Blk w' b T cs := (hg.block b h.lt hne).trans h
theorem Blk.grown0 (h : Blk w b T cs) (hg : w.grownBy w' none) : Blk w' b T cs := h.grown hg (by simp)
theorem J0 {o : Nat} {vs : List Value} (h : w.rangeAt b o vs) {r : Option Nat} (hg : w.grownBy w' r) (hne : some b ≠ r) : w'.rangeAt b o vs := fun j v hj =>
  hg.cell (h j v hj) hne
end
structure NewB (w w' : World) (B : Nat) (T : TypeId) (cs : Array Value) : Prop where
  eq : B = w.heap.size
  blk : Blk w' B T cs
  grw : w.grownBy w' none
  sz : w'.heap.size = w.heap.size + 1
structure SetB (w w' : World) (b : Nat) (T : TypeId) (cs : Array Value) : Prop where
  blk : Blk w' b T cs
  grw : w.grownBy w' (some b)
  sz : w'.heap.size = w.heap.size
theorem U4 (w : World) (T : TypeId) (cs : Array Value) : NewB w (w.alloc (.cells cs T)) w.heap.size T cs :=
  ⟨rfl, by show (w.heap.push _)[w.heap.size]? = _; simp, World.grownBy_alloc _ _ _, by simp⟩
theorem setB_setRow {w : World} {b : Nat} {T : TypeId} {cs : Array Value} (h : Blk w b T cs) (cs' : Array Value) : SetB w (w.setRow b cs') b T cs' :=
  ⟨setRow_heap w b cs cs' T _ h, ⟨rfl, rfl, rfl, by simp [World.setRow], fun i _ hne => by
    have : b ≠ i := fun e => hne (by rw [e])
    simp [World.setRow, Array.getElem?_modify, this]⟩, by simp [World.setRow]⟩
theorem grown_trans {a b c : World} {r : Option Nat} (h : a.grownBy b r) (k : b.grownBy c r) : a.grownBy c r :=
  ⟨k.os.trans h.os, k.tape.trans h.tape, k.output.trans h.output, Nat.le_trans h.size k.size, fun i hi hne => (k.block i (Nat.lt_of_lt_of_le hi h.size) hne).trans (h.block i hi hne)⟩
theorem H1 {w w' : World} {r : Option Nat} {B : Nat} (hg : w.grownBy w' r) (hB : B ≤ w.heap.size) (hr : ∀ k, r = some k → B ≤ k) : Below B w w' :=
  (Below.refl B w).grown hg hB hr
theorem V2 {w w' : World} {B : Nat} (hg : w.grownBy w' none) (hB : B ≤ w.heap.size) : Below B w w' := H1 hg hB (by simp)
theorem low0 {w a b : World} {r : Option Nat} (h : w.grownBy a r) (hg : a.grownBy b none) : w.grownBy b r :=
  ⟨hg.os.trans h.os, hg.tape.trans h.tape, hg.output.trans h.output, Nat.le_trans h.size hg.size, fun i hi hne => (hg.block i (Nat.lt_of_lt_of_le hi h.size) (by simp)).trans (h.block i hi hne)⟩
theorem low1 {w a b : World} {r : Option Nat} {c : Nat} (h : w.grownBy a r) (hg : a.grownBy b (some c)) (hc : w.heap.size ≤ c) : w.grownBy b r :=
  ⟨hg.os.trans h.os, hg.tape.trans h.tape, hg.output.trans h.output, Nat.le_trans h.size hg.size, fun i hi hne => (hg.block i (Nat.lt_of_lt_of_le hi h.size) (by simp; omega)).trans (h.block i hi hne)⟩
theorem Yd {w a b : World} {r : Option Nat} {B : Nat} {T : TypeId} {cs : Array Value} (h : NewB a b B T cs) (hl : w.grownBy a r) : w.heap.size ≤ B := by rw [h.eq]; exact hl.size
theorem Jj {a b : Nat} (h : a ≠ b) : some a ≠ some b := fun e => h (by injection e)
theorem Blk.gn {w w' : World} {b r : Nat} {T : TypeId} {cs : Array Value} (h : Blk w b T cs) (hg : w.grownBy w' (some r)) (hne : b ≠ r := by omega) : Blk w' b T cs := h.grown hg (Jj hne)
theorem Blk.rangeL {w : World} {b : Nat} {T : TypeId} {cs : Array Value} (h : Blk w b T cs) (o k : Nat) {vs : List Value} (e : (cs.toList.drop o).take k = vs) : w.rangeAt b o vs :=
  h.range fun j v hj => by
    rw [← e, List.getElem?_take] at hj
    split at hj
    · rw [List.getElem?_drop] at hj; simpa using hj
    · cases hj
theorem Y2 {w : World} {b o : Nat} {us : List Value} (h : w.rangeAt b o us) (j k : Nat) {vs : List Value} (e : (us.drop j).take k = vs) : w.rangeAt b (o + j) vs := fun i v hi => by
  rw [← e, List.getElem?_take] at hi
  split at hi
  · rw [List.getElem?_drop] at hi
    rw [Nat.add_assoc]
    exact h _ _ hi
  · cases hi
theorem Yi {w w' : World} {b o : Nat} {vs : List Value} (h : w.rangeAt b o vs) (hb : w.grownBy w' none) : w'.rangeAt b o vs := J0 h hb (by simp)
theorem Yg (b : Bool) : b = true ∨ b = false := by cases b <;> simp
theorem Jr {b : Bool} (h : (!b) = true) : b = false := by simpa using h
theorem Q3 {b : Bool} (h : (!b) = false) : b = true := by simpa using h
theorem Ks {b : Bool} (h : b = true) : (!b) = false := by simp [h]
theorem J7 {b : Bool} (h : b = false) : (!b) = true := by simp [h]
theorem L0 {a b : Bool} (h : (a && b) = true) : a = true := by simp at h; exact h.1
theorem L1 {a b : Bool} (h : (a && b) = true) : b = true := by simp at h; exact h.2
theorem Kl {a b : Bool} (h : (a || b) = false) : a = false := by simp at h; exact h.1
theorem Km {a b : Bool} (h : (a || b) = false) : b = false := by simp at h; exact h.2
theorem Xcc {α : Type} [DecidableEq α] (a b : α) : (a == b) = decide (a = b) := by
  by_cases h : a = b <;> simp [h]
theorem Xm {f : Fr} : ([] : List Operand).map (ev f) = [] := rfl
theorem Xf {f : Fr} {x : Operand} {xs : List Operand} {v : Value} {vs : List Value} (h : ev f x = v) (t : xs.map (ev f) = vs) : (x :: xs).map (ev f) = v :: vs := by simp [h, t]
theorem X5 {f : Fr} : ([] : List (Nat × Operand)).map (fun p => (p.1, ev f p.2)) = [] := rfl
theorem Xk {f : Fr} {i : Nat} {x : Operand} {xs : List (Nat × Operand)} {v : Value} {vs : List (Nat × Value)} (h : ev f x = v) (t : xs.map (fun p => (p.1, ev f p.2)) = vs) :
    ((i, x) :: xs).map (fun p => (p.1, ev f p.2)) = (i, v) :: vs := by simp [h, t]
def SlAt (w : World) (a : Option Addr) (sz : Nat) (xs : List (List Value)) : Prop := ∀ k x, xs[k]? = some x → ∃ b o, a = some ⟨b, o, none⟩ ∧ w.rangeAt b (o + k * sz) x
theorem SlAt.low {w w' : World} {a : Option Addr} {sz : Nat} {xs : List (List Value)} (h : SlAt w a sz xs) (hb : w.grownBy w' none) : SlAt w' a sz xs := fun k x hk => by
  obtain ⟨b, o, ha, hr⟩ := h k x hk
  exact ⟨b, o, ha, Yi hr hb⟩
theorem SlAt.at {w : World} {a : Option Addr} {sz k : Nat} {xs : List (List Value)} {x : List Value} (h : SlAt w a sz xs) (hk : xs[k]? = some x) : ∃ b q o, a = some ⟨b, q, none⟩ ∧ q + k * sz = o ∧ w.rangeAt b o x := by
  obtain ⟨b, o, ha, hr⟩ := h k x hk
  exact ⟨b, o, _, ha, rfl, hr⟩
theorem Ja {α : Type} {l : List α} {i : Nat} (h : i < l.length) : ∃ x, l[i]? = some x := ⟨_, List.getElem?_eq_getElem h⟩
theorem Yp {α β : Type} {g : α → β} {l : List α} {i : Nat} {x : α} (h : l[i]? = some x) : (l.map g)[i]? = some (g x) := by simp [h]
def fieldOff (P : Program) (s : TypeId) (k : Nat) : Option Nat :=
  match P.underlying s with
  | some (.struct fs) => match fs[k]? with
    | some fl => match P.info? fl.type with
      | some i => if i.size = 0 then none else some fl.offset
      | none => none
    | none => none
  | _ => none
def oneTy (P : Program) (t : TypeId) : Bool :=
  match P.underlying t with
  | some (.struct _) | some (.array _ _) | none => false
  | _ => match P.info? t with | some i => i.size == 1 | none => false
def rowTy (P : Program) (t : TypeId) : Option Nat :=
  match P.underlying t with
  | some (.struct _) | some (.array _ _) => (P.info? t).map (·.size)
  | _ => none
def zeroTy (P : Program) (t : TypeId) : Option Value := (P.info? t).bind (·.zero)
def goFn (P : Program) (k : FuncId) : Bool :=
  match P.funcs[k]? with
  | some fn => fn.body.isSome && !(fn.name == "runtime.NumGoroutine")
  | none => false
def elemSz (P : Program) (t : TypeId) : Option Nat :=
  match P.underlying t with
  | some (.slice e) => (P.info? e).map (·.size)
  | _ => none
section
variable {P : Program} {w : World}
theorem Rz {s k j b o o' : Nat} (h : fieldOff P s k = some j) (e : o + j = o') : (Instr.fieldAt s (.pointer (some ⟨b, o, none⟩)) k).run P w = .ok (.pointer (some ⟨b, o', none⟩)) w := by
  unfold fieldOff at h
  split at h
  · rename_i fs hu
    split at h
    · rename_i fl hfl
      split at h
      · rename_i i hi
        split at h
        · cases h
        · rename_i hz
          obtain rfl := Option.some.inj h
          simp [Instr.fieldAt, run_underlying hu, hfl, Instr.sureAddr, fieldPlace, sizeOf, typeInfo, hi, hz, Addr.add_mid, e]
      · cases h
    · cases h
  · cases h
theorem Li {t : TypeId} (h : oneTy P t = true) : (isAgg t).run P w = .ok false w := by
  unfold oneTy at h
  split at h
  · cases h
  · cases h
  · cases h
  · rename_i d h1 h2 h3
    cases hu : P.underlying t with
    | none => exact absurd hu h3
    | some d =>
      unfold isAgg
      rw [Sem.run_bind, run_underlying hu w]
      cases d <;> first | rfl | exact absurd hu (h1 _) | exact absurd hu (h2 _ _)
theorem S0 {t : TypeId} (h : oneTy P t = true) : (sizeOf t).run P w = .ok 1 w := by
  unfold oneTy at h
  split at h
  · cases h
  · cases h
  · cases h
  · split at h
    · rename_i i hi
      have : i.size = 1 := by simpa using h
      simp [sizeOf, typeInfo, hi, this]
    · cases h
theorem Mf {t : TypeId} (h : oneTy P t = true) {a : Addr} {v : Value} (hc : w.cell? a = some v) : (Instr.loadAt t (.pointer (some a))).run P w = .ok v w := by
  simp [Instr.loadAt, Instr.sureAddr, loadVar, Li h, hc]
theorem U5 {t k : Nat} (h : rowTy P t = some k) : ∃ d, P.underlying t = some d ∧ d.isRow = true ∧ (P.info? t).map (·.size) = some k := by
  unfold rowTy at h
  split at h
  · rename_i fs hu; exact ⟨_, hu, rfl, h⟩
  · rename_i m e hu; exact ⟨_, hu, rfl, h⟩
  · cases h
theorem Mg {t k b o : Nat} {vs : List Value} (h : rowTy P t = some k) (hl : vs.length = k) (hr : w.rangeAt b o vs) :
    (Instr.loadAt t (.pointer (some ⟨b, o, none⟩))).run P w = .ok (.agg vs.toArray) w := by
  obtain ⟨d, hu, hd, hs⟩ := U5 h
  exact run_loadAt_mid w b o t vs d hr hu hd (by rw [hs, hl])
theorem Gc {t b o : Nat} {T : TypeId} {cs : Array Value} {v : Value} (h : oneTy P t = true) (h1 : v.oneCell' = true) (hb : Blk w b T cs) (ho : o < cs.size) :
    (Instr.storeAt t (.pointer (some ⟨b, o, none⟩)) v).run P w = .ok () (w.setRow b (cs.setIfInBounds o v)) := by
  have hc : v.cells = #[v] := by cases v <;> first | rfl | cases h1
  have hcell : w.cell? ⟨b, o, none⟩ = some cs[o] := hb.cell (by simp [ho])
  have hst : (store (⟨b, o, none⟩ : Addr) v).run P w = .ok () (w.setRow b (cs.setIfInBounds o v)) := by
    rw [run_store P w _ v _ h1, hcell]
    simp [hb.froz o, setCell_eq_setRow w b o cs T (0, 0) v hb]
  simp [Instr.storeAt, Instr.sureAddr, storeVar, S0 h, hc, storeCells, Addr.add_mid, hst]
theorem Gd {t k b o : Nat} {T : TypeId} {cs : Array Value} {vs : List Value} (h : rowTy P t = some k) (hl : vs.length = k) (h1 : ∀ v ∈ vs, v.oneCell' = true) (hb : Blk w b T cs) (ho : o + k ≤ cs.size) :
    (Instr.storeAt t (.pointer (some ⟨b, o, none⟩)) (.agg vs.toArray)).run P w = .ok () (w.setRow b (cs.toList.take o ++ vs ++ cs.toList.drop (o + k)).toArray) := by
  obtain ⟨d, _, _, hs⟩ := U5 h
  cases hq : P.info? t with
  | none => simp [hq] at hs
  | some i =>
    have hi : i.size = k := by simpa [hq] using hs
    have := run_storeCells_at (P := P) b o T vs 0 cs w hb (by omega) h1
    simp only [Nat.add_zero, hl] at this
    simp [Instr.storeAt, Instr.sureAddr, storeVar, sizeOf, typeInfo, hq, hi, Value.cells, hl, this]
theorem I1 {t : TypeId} {z : Value} (h : zeroTy P t = some z) : (zeroValue t).run P w = .ok z w := by
  unfold zeroTy at h
  cases hq : P.info? t with
  | none => simp [hq] at h
  | some i =>
    have hz : i.zero = some z := by simpa [hq] using h
    simp [zeroValue, typeInfo, hq, hz]
theorem Me {t sz b o : Nat} {len cap : Nat} {k : IntKind} {i : Int} (h : elemSz P t = some sz) (h0 : 0 ≤ i) (h1 : i < len) {o' : Nat} (e : o + i.toNat * sz = o') :
    (Instr.indexAt t (.slice (some ⟨b, o, none⟩) len cap) (.int k i)).run P w = .ok (.pointer (some ⟨b, o', none⟩)) w := by
  unfold elemSz at h
  split at h
  · rename_i el hu
    cases hq : P.info? el with
    | none => simp [hq] at h
    | some inf =>
      have hs : inf.size = sz := by simpa [hq] using h
      simp [Instr.indexAt, run_underlying hu, asIntOf, h0, h1, sizeOf, typeInfo, hq, hs, Addr.add_mid, e]
  · cases h
theorem Gb {k : FuncId} (h : goFn P k = true) (args : Array Value) : (callFunc k args).run P w = .ok (.enter k args) w := by
  unfold goFn at h
  split at h
  · rename_i fn hf
    simp only [Bool.and_eq_true, Bool.not_eq_true'] at h
    obtain ⟨hb, hn⟩ := h
    have hb' : fn.body.isNone = false := by cases hh : fn.body <;> simp_all
    have hn' : ¬ fn.name = "runtime.NumGoroutine" := by simpa using hn
    unfold callFunc
    rw [Sem.run_bind, run_program, Result.andThen_ok]
    simp [hf, hn', hb']
  · cases h
end
def resCell (P : Program) (f : Fr) (w : World) (t : Nat) (T : TypeId) (v : Value) : Prop := ∃ a, f t = .pointer (some a) ∧ (loadVar T a).run P w = .ok v w
section
variable {P : Program} {fn : Func} {f : Fr} {w : World}
theorem Yh {t T k b o : Nat} {vs : List Value} (ht : rowTy P T = some k) (hf : f t = .pointer (some ⟨b, o, none⟩)) (hl : vs.length = k) (hr : w.rangeAt b o vs) : resCell P f w t T (.agg vs.toArray) := by
  obtain ⟨d, hu, hd, hs⟩ := U5 ht
  exact ⟨_, hf, run_loadVar_mid w b o T vs d hr hu hd (by rw [hs, hl])⟩
theorem Jt {t T : Nat} {v : Value} (h : fn.results = #[.cell t T]) (hc : resCell P f w t T v) : resV P fn f w v := fun tm ht => by
  obtain ⟨a, hf, hl⟩ := hc
  simp [results, h, ht, hf, asAddr, hl]
theorem Ix {s t T : Nat} {u v : Value} (h : fn.results = #[.tmp s, .cell t T]) (hs : f s = u) (hc : resCell P f w t T v) : resV P fn f w (.tuple #[u, v]) := fun tm ht => by
  obtain ⟨a, hf, hl⟩ := hc
  simp [results, h, ht, hf, hs, asAddr, hl]
theorem Ng {s t T : Nat} {u v : Value} (h : fn.results = #[.cell t T, .tmp s]) (hc : resCell P f w t T v) (hs : f s = u) : resV P fn f w (.tuple #[v, u]) := fun tm ht => by
  obtain ⟨a, hf, hl⟩ := hc
  simp [results, h, ht, hf, hs, asAddr, hl]
end
def CallsR (P : Program) (k : FuncId) (args : Array Value) (w : World) (R : Value → World → Prop) : Prop := Calls P k args w fun e w' => ∃ v, e = .returned v ∧ R v w'
theorem CallsR.mono {P : Program} {k : FuncId} {args : Array Value} {w : World} {R R' : Value → World → Prop} (h : CallsR P k args w R) (hr : ∀ v w', R v w' → R' v w') : CallsR P k args w R' :=
  Calls.mono h fun _ _ ⟨v, he, hR⟩ => ⟨v, he, hr _ _ hR⟩
section
variable {P : Program} {n : Nat} {ops : Array Oper} {K : Fr → World → Prop} {l : List Oper} {f : Fr} {w w' : World} {ty : TypeId} {pos : String} {aft : Array Edge} {d : Nat}
theorem Xd {x : Operand} {v : Value} (hx : ev f x = v) (hd : Nat.blt d n = true) (h : WpO P n ops K l (up f d v) w) : WpO P n ops K (⟨some d, .move x, ty, pos, aft, none⟩ :: l) f w :=
  Jc rfl hd (by simp [execOp, hx]) h
theorem Xe {x : Operand} {v : Value} (hx : ev f x = v) (hd : Nat.blt d n = true) (h : WpO P n ops K l (up f d v) w) : WpO P n ops K (⟨some d, .assign x, ty, pos, aft, none⟩ :: l) f w :=
  Jc rfl hd (by simp [execOp, hx]) h
theorem Xw {c x y : Operand} {b : Bool} {v : Value} (hc : ev f c = .bool b) (hb : b = true) (hx : ev f x = v) (hd : Nat.blt d n = true) (h : WpO P n ops K l (up f d v) w) :
    WpO P n ops K (⟨some d, .pick c x y, ty, pos, aft, none⟩ :: l) f w :=
  Jc rfl hd (by simp [execOp, hc, hb, hx, asBool]) h
theorem Xp {c x y : Operand} {b : Bool} {v : Value} (hc : ev f c = .bool b) (hb : b = false) (hy : ev f y = v) (hd : Nat.blt d n = true) (h : WpO P n ops K l (up f d v) w) :
    WpO P n ops K (⟨some d, .pick c x y, ty, pos, aft, none⟩ :: l) f w :=
  Jc rfl hd (by simp [execOp, hc, hb, hy, asBool]) h
theorem Y7 {T : TypeId} {x : Operand} {v : Value} {cs : Array Value} (hx : ev f x = v) (hcs : v.cells = cs) (hd : Nat.blt d n = true)
    (h : ∀ B w', NewB w w' B T cs → WpO P n ops K l (up f d (.pointer (some ⟨B, 0, none⟩))) w') : WpO P n ops K (⟨some d, .box T x, ty, pos, aft, none⟩ :: l) f w :=
  Jc rfl hd (by simp [execOp, hx, Instr.box, newVar, newRow, newObj, hcs]; rfl) (h _ _ (U4 w T cs))
theorem Yf {T : TypeId} {z : Value} {cs : Array Value} (hz : zeroTy P T = some z) (hcs : z.cells = cs) (hd : Nat.blt d n = true)
    (h : ∀ B w', NewB w w' B T cs → WpO P n ops K l (up f d (.pointer (some ⟨B, 0, none⟩))) w') : WpO P n ops K (⟨some d, .alloc T, ty, pos, aft, none⟩ :: l) f w :=
  Jc rfl hd (by simp [execOp, Instr.alloc, I1 hz, newVar, newRow, newObj, hcs]; rfl) (h _ _ (U4 w T cs))
theorem Xh {t : TypeId} {x : Operand} {a : Addr} {v : Value} (ht : oneTy P t = true) (hx : ev f x = .pointer (some a)) (hc : w.cell? a = some v) (hd : Nat.blt d n = true)
    (h : WpO P n ops K l (up f d v) w) : WpO P n ops K (⟨some d, .load t x, ty, pos, aft, none⟩ :: l) f w :=
  Jc rfl hd (by simp [execOp, hx, Mf ht hc]) h
theorem Xr {t k b o : Nat} {x : Operand} {vs : List Value} (ht : rowTy P t = some k) (hx : ev f x = .pointer (some ⟨b, o, none⟩)) (hl : vs.length = k) (hr : w.rangeAt b o vs) (hd : Nat.blt d n = true)
    (h : WpO P n ops K l (up f d (.agg vs.toArray)) w) : WpO P n ops K (⟨some d, .load t x, ty, pos, aft, none⟩ :: l) f w :=
  Jc rfl hd (by simp [execOp, hx, Mg ht hl hr]) h
theorem Yc {t b o : Nat} {x y : Operand} {T : TypeId} {cs cs' : Array Value} {v : Value} (ht : oneTy P t = true) (hx : ev f x = .pointer (some ⟨b, o, none⟩)) (hy : ev f y = v) (h1 : v.oneCell' = true)
    (hb : Blk w b T cs) (ho : o < cs.size) (hcs : cs.setIfInBounds o v = cs') (h : ∀ w', SetB w w' b T cs' → WpO P n ops K l f w') : WpO P n ops K (⟨none, .store t x y, ty, pos, aft, none⟩ :: l) f w :=
  Wv rfl rfl (by simp [execOp, hx, hy, Gc ht h1 hb ho, hcs]) (h _ (setB_setRow hb cs'))
theorem Xy {t k b o : Nat} {x y : Operand} {T : TypeId} {cs cs' : Array Value} {vs : List Value} (ht : rowTy P t = some k) (hx : ev f x = .pointer (some ⟨b, o, none⟩)) (hy : ev f y = .agg vs.toArray) (hl : vs.length = k)
    (h1 : ∀ v ∈ vs, v.oneCell' = true) (hb : Blk w b T cs) (ho : o + k ≤ cs.size) (hcs : (cs.toList.take o ++ vs ++ cs.toList.drop (o + k)).toArray = cs') (h : ∀ w', SetB w w' b T cs' → WpO P n ops K l f w') :
    WpO P n ops K (⟨none, .store t x y, ty, pos, aft, none⟩ :: l) f w :=
  Wv rfl rfl (by simp only [execOp, hx, hy, Sem.run_bind, Gd ht hl h1 hb ho, hcs, Result.andThen_ok]; rfl) (h _ (setB_setRow hb cs'))
theorem Xc {s k j b o o' : Nat} {x : Operand} (hf : fieldOff P s k = some j) (hx : ev f x = .pointer (some ⟨b, o, none⟩)) (e : o + j = o') (hd : Nat.blt d n = true)
    (h : WpO P n ops K l (up f d (.pointer (some ⟨b, o', none⟩))) w) : WpO P n ops K (⟨some d, .fieldAddr s x k, ty, pos, aft, none⟩ :: l) f w :=
  Jc rfl hd (by simp [execOp, hx, Rz hf e]) h
theorem X4 {t sz b o o' len cap : Nat} {x y : Operand} {k : IntKind} {i : Int} (ht : elemSz P t = some sz) (hx : ev f x = .slice (some ⟨b, o, none⟩) len cap) (hy : ev f y = .int k i) (h0 : 0 ≤ i) (h1 : i < len)
    (e : o + i.toNat * sz = o') (hd : Nat.blt d n = true) (h : WpO P n ops K l (up f d (.pointer (some ⟨b, o', none⟩))) w) : WpO P n ops K (⟨some d, .indexAddr t x y, ty, pos, aft, none⟩ :: l) f w :=
  Jc rfl hd (by simp [execOp, hx, hy, Me ht h0 h1 e]) h
theorem X3 {t sz len cap b q o' : Nat} {a : Option Addr} {x y : Operand} {k : IntKind} {i : Int} (ht : elemSz P t = some sz) (hx : ev f x = .slice a len cap) (hy : ev f y = .int k i) (ha : a = some ⟨b, q, none⟩) (e : q + i.toNat * sz = o') (h0 : 0 ≤ i) (h1 : i < len)
    (hd : Nat.blt d n = true) (h : WpO P n ops K l (up f d (.pointer (some ⟨b, o', none⟩))) w) : WpO P n ops K (⟨some d, .indexAddr t x y, ty, pos, aft, none⟩ :: l) f w := by
  subst ha
  exact X4 ht hx hy h0 h1 e hd h
theorem Zq {t et : TypeId} {a : Option Addr} {m c : Nat} (ht : (match P.underlying t with | some (.slice _) => true | _ => false) = true) : (Builtin.len_ #[t] et #[.slice a m c]).run P w = .ok (.int .i64 (m : Int)) w := by
  cases hu : P.underlying t with
  | none => rw [hu] at ht; cases ht
  | some dd =>
    rw [hu] at ht
    cases dd with
    | slice e => exact run_len_slice w t et a m c (by simp [Program.elem, hu])
    | _ => cases ht
theorem Y1 {t : TypeId} {a : Option Addr} {m c : Nat} {x : Operand} (ht : (match P.underlying t with | some (.slice _) => true | _ => false) = true) (hx : ev f x = .slice a m c) (hd : Nat.blt d n = true)
    (h : WpO P n ops K l (up f d (.int .i64 (m : Int))) w) : WpO P n ops K (⟨some d, .call ⟨.builtin .len, #[x], #[t]⟩, ty, pos, aft, none⟩ :: l) f w :=
  Jc rfl hd (by simp [execOp, resolve, invoke, builtin, hx, Zq ht]) h
theorem Xs {x : Operand} {a : Addr} (hx : ev f x = .pointer (some a)) (hd : Nat.blt d n = true) (h : WpO P n ops K l (up f d (.pointer (some a))) w) : WpO P n ops K (⟨some d, .nilCheck x, ty, pos, aft, none⟩ :: l) f w :=
  Jc rfl hd (by simp [execOp, hx]) h
theorem Ye {x : Operand} {i : Nat} {vs : Array Value} {v : Value} (hx : ev f x = .tuple vs) (hv : vs[i]? = some v) (hd : Nat.blt d n = true) (h : WpO P n ops K l (up f d v) w) : WpO P n ops K (⟨some d, .extract x i, ty, pos, aft, none⟩ :: l) f w :=
  Jc rfl hd (by simp [execOp, hx, Instr.extract, hv]) h
theorem Yn {t : TypeId} {x : Operand} {b b' : Bool} (hx : ev f x = .bool b) (hb : (!b) = b') (hd : Nat.blt d n = true) (h : WpO P n ops K l (up f d (.bool b')) w) : WpO P n ops K (⟨some d, .unOp .not t x, ty, pos, aft, none⟩ :: l) f w :=
  Jc rfl hd (by simp [execOp, hx, Op.unary, hb]) h
theorem Ko {bo : BinOp} {xt yt : TypeId} {x y : Operand} {u u' v : Value} (hx : ev f x = u) (hy : ev f y = u') (hr : (binOp bo xt u u').run P w = .ok v w) (hg : ∀ x y, eqGuard bo xt x y u u' = pure ()) (hd : Nat.blt d n = true)
    (h : WpO P n ops K l (up f d v) w) : WpO P n ops K (⟨some d, .binOp bo xt x y yt, ty, pos, aft, none⟩ :: l) f w :=
  Jc rfl hd (by simp [execOp, hx, hy, hr, hg]) h
theorem Yv {t : TypeId} {parts : Array (Nat × Operand)} {ps : List (Nat × Value)} {v : Value} (hp : parts.toList.map (fun p => (p.1, ev f p.2)) = ps) (hb : (Instr.build t ps.toArray).run P w = .ok v w) (hd : Nat.blt d n = true)
    (h : WpO P n ops K l (up f d v) w) : WpO P n ops K (⟨some d, .build t parts, ty, pos, aft, none⟩ :: l) f w :=
  Jc rfl hd (by
    have e : (parts.map fun p => (p.1, ev f p.2)) = ps.toArray := by rw [← hp]; apply Array.ext'; simp
    show ((do pure (Next.value (← Instr.build t (parts.map fun p => (p.1, ev f p.2)))) : Sem Next)).run P w = _
    rw [e, Sem.run_bind, hb]
    rfl) h
theorem Kz {t : TypeId} {x : Operand} {v : Value} (ht : (Instr.makeInterface t v).run P w = .ok (.iface t v) w) (hx : ev f x = v) (hd : Nat.blt d n = true) (h : WpO P n ops K l (up f d (.iface t v)) w) :
    WpO P n ops K (⟨some d, .makeInterface t x, ty, pos, aft, none⟩ :: l) f w := Jc rfl hd (by simp [execOp, hx, ht]) h
theorem Pq {k : FuncId} {cap : Array Operand} {vs : List Value} (hc : cap.toList.map (ev f) = vs) (hd : Nat.blt d n = true) (h : WpO P n ops K l (up f d (.func (.func k) #[] vs.toArray)) w) :
    WpO P n ops K (⟨some d, .makeFunc (.func k) #[] cap, ty, pos, aft, none⟩ :: l) f w := Jc rfl hd (by
      have : cap.map (ev f) = vs.toArray := by rw [← hc]; apply Array.ext'; simp
      simp [execOp, Instr.makeFunc, this]) h
theorem P5 {a : Int} (h0 : 0 ≤ a) (h1 : a ≤ 18446744073709551615) : IntKind.u64.wrap a = a := by rw [IntKind.wrap_u64]; omega
theorem H8 {a : Int} (h0 : -9223372036854775808 ≤ a) (h1 : a ≤ 9223372036854775807) : IntKind.i64.wrap a = a := IntWalk.i64_in a (by omega)
theorem Wu {s t : TypeId} {x : Operand} {k k' : IntKind} {a c : Int} (hx : ev f x = .int k a) (hs : (P.underlying s).isSome = true) (ht : P.underlying t = some (.int k')) (hc : k'.wrap a = c) (hd : Nat.blt d n = true)
    (h : WpO P n ops K l (up f d (.int k' c)) w) : WpO P n ops K (⟨some d, .convert s t x, ty, pos, aft, none⟩ :: l) f w :=
  Jc rfl hd (by
    obtain ⟨ds, hs'⟩ := Option.isSome_iff_exists.1 hs
    simp [execOp, hx, convert, run_underlying hs', run_underlying ht, Conv.intToInt, hc]) h
theorem Hv {bo : BinOp} {t yt : TypeId} {x y : Operand} {u v : Value} {q q' : Bool} (hx : ev f x = u) (hy : ev f y = v) (hg : (eqGuard bo t x y u v).run P w = .ok () w) (hr : (binOp bo t u v).run P w = .ok (.bool q') w) (hq : q' = q)
    (hd : Nat.blt d n = true) (h : WpO P n ops K l (up f d (.bool q)) w) : WpO P n ops K (⟨some d, .binOp bo t x y yt, ty, pos, aft, none⟩ :: l) f w :=
  Jc rfl hd (by simp only [execOp, hx, hy, Sem.run_bind, hg, hr, Result.andThen_ok, hq]; rfl) h
section ints
variable {xt yt : TypeId} {x y : Operand} {k : IntKind} {a b c : Int}
theorem Yl (hx : ev f x = .int .i64 a) (hy : ev f y = .int .i64 b) (hc : a + b = c) (h0 : -9223372036854775808 ≤ c) (h1 : c ≤ 9223372036854775807) (hd : Nat.blt d n = true) (h : WpO P n ops K l (up f d (.int .i64 c)) w) :
    WpO P n ops K (⟨some d, .binOp .add xt x y yt, ty, pos, aft, none⟩ :: l) f w :=
  Ko hx hy (by rw [binOp_add]; simp [Op.intArith, hc, IntWalk.i64_in c (by omega)]) (fun _ _ => eqGuard_at_int ..) hd h
theorem Yr (hx : ev f x = .int .i64 a) (hy : ev f y = .int .i64 b) (hc : a - b = c) (h0 : -9223372036854775808 ≤ c) (h1 : c ≤ 9223372036854775807) (hd : Nat.blt d n = true) (h : WpO P n ops K l (up f d (.int .i64 c)) w) :
    WpO P n ops K (⟨some d, .binOp .sub xt x y yt, ty, pos, aft, none⟩ :: l) f w :=
  Ko hx hy (by rw [binOp_sub]; simp [Op.intArith, hc, IntWalk.i64_in c (by omega)]) (fun _ _ => eqGuard_at_int ..) hd h
theorem K5 (hx : ev f x = .int .i64 a) (hy : ev f y = .int .i64 b) (h0 : 0 ≤ a) (h1 : 0 < b) (h2 : a ≤ 9223372036854775807) (hc : a / b = c) (hd : Nat.blt d n = true) (h : WpO P n ops K l (up f d (.int .i64 c)) w) :
    WpO P n ops K (⟨some d, .binOp .quo xt x y yt, ty, pos, aft, none⟩ :: l) f w :=
  Ko hx hy (by
    rw [binOp_quo]
    have hb : b ≠ 0 := by omega
    have h3 : a / b ≤ a := Int.ediv_le_self _ h0
    have h4 : 0 ≤ a / b := Int.ediv_nonneg h0 (by omega)
    rw [hc] at h3 h4
    simp [Op.intDiv, hb, Int.tdiv_eq_ediv_of_nonneg h0, hc, IntWalk.i64_in c (by omega)]) (fun _ _ => eqGuard_at_int ..) hd h
theorem Q9 (hx : ev f x = .int .i64 a) (hy : ev f y = .int .i64 b) (h0 : 0 ≤ a) (h1 : 0 < b) (_h2 : a ≤ 9223372036854775807) (hc : a % b = c) (hd : Nat.blt d n = true) (h : WpO P n ops K l (up f d (.int .i64 c)) w) :
    WpO P n ops K (⟨some d, .binOp .rem xt x y yt, ty, pos, aft, none⟩ :: l) f w :=
  Ko hx hy (by
    rw [binOp_rem]
    have hb : b ≠ 0 := by omega
    simp [Op.intDiv, hb, Int.tmod_eq_emod_of_nonneg h0, hc]) (fun _ _ => eqGuard_at_int ..) hd h
theorem G1 (hx : ev f x = .int .i64 a) (hy : ev f y = .int .i64 b) (hc : a * b = c) (h0 : -9223372036854775808 ≤ c) (h1 : c ≤ 9223372036854775807) (hd : Nat.blt d n = true) (h : WpO P n ops K l (up f d (.int .i64 c)) w) :
    WpO P n ops K (⟨some d, .binOp .mul xt x y yt, ty, pos, aft, none⟩ :: l) f w :=
  Ko hx hy (by rw [binOp_mul]; simp [Op.intArith, hc, IntWalk.i64_in c (by omega)]) (fun _ _ => eqGuard_at_int ..) hd h
theorem Qg {q : Bool} (hx : ev f x = .int k a) (hy : ev f y = .int k b) (hq : decide (a < b) = q) (hd : Nat.blt d n = true) (h : WpO P n ops K l (up f d (.bool q)) w) : WpO P n ops K (⟨some d, .binOp .lss xt x y yt, ty, pos, aft, none⟩ :: l) f w :=
  Ko hx hy (by rw [binOp_lss, ← hq]; rfl) (fun _ _ => eqGuard_at_int ..) hd h
theorem Vj {q : Bool} (hx : ev f x = .int k a) (hy : ev f y = .int k b) (hq : decide (a ≤ b) = q) (hd : Nat.blt d n = true) (h : WpO P n ops K l (up f d (.bool q)) w) : WpO P n ops K (⟨some d, .binOp .leq xt x y yt, ty, pos, aft, none⟩ :: l) f w :=
  Ko hx hy (by rw [binOp_leq, ← hq]; rfl) (fun _ _ => eqGuard_at_int ..) hd h
theorem Jm {q : Bool} (hx : ev f x = .int k a) (hy : ev f y = .int k b) (hq : decide (b < a) = q) (hd : Nat.blt d n = true) (h : WpO P n ops K l (up f d (.bool q)) w) : WpO P n ops K (⟨some d, .binOp .gtr xt x y yt, ty, pos, aft, none⟩ :: l) f w :=
  Ko hx hy (by rw [binOp_gtr, ← hq]; rfl) (fun _ _ => eqGuard_at_int ..) hd h
theorem V0 {q : Bool} (hx : ev f x = .int k a) (hy : ev f y = .int k b) (hq : decide (b ≤ a) = q) (hd : Nat.blt d n = true) (h : WpO P n ops K l (up f d (.bool q)) w) : WpO P n ops K (⟨some d, .binOp .geq xt x y yt, ty, pos, aft, none⟩ :: l) f w :=
  Ko hx hy (by rw [binOp_geq, ← hq]; rfl) (fun _ _ => eqGuard_at_int ..) hd h
theorem X6 {q : Bool} (hx : ev f x = .int k a) (hy : ev f y = .int k b) (hq : decide (a = b) = q) (hd : Nat.blt d n = true) (h : WpO P n ops K l (up f d (.bool q)) w) : WpO P n ops K (⟨some d, .binOp .eql xt x y yt, ty, pos, aft, none⟩ :: l) f w :=
  Ko hx hy (by rw [binOp_eql, ← hq, Xcc]; rfl) (fun _ _ => eqGuard_at_int ..) hd h
theorem Q1 {q : Bool} (hx : ev f x = .int k a) (hy : ev f y = .int k b) (hq : (!decide (a = b)) = q) (hd : Nat.blt d n = true) (h : WpO P n ops K l (up f d (.bool q)) w) : WpO P n ops K (⟨some d, .binOp .neq xt x y yt, ty, pos, aft, none⟩ :: l) f w :=
  Ko hx hy (by rw [binOp_neq, ← hq, bne, Xcc]; rfl) (fun _ _ => eqGuard_at_int ..) hd h
end ints
theorem G9 (k : Nat) (M : Fr → World → Prop) (h1 : WpO P n ops M (l.take k) f w) (h2 : ∀ f w, M f w → WpO P n ops K (l.drop k) f w) : WpO P n ops K l f w := by
  have := Zu (l := l.take k) (l' := l.drop k) (h1.mono h2)
  rwa [List.take_append_drop] at this
theorem Xn {k : FuncId} {args : Array Operand} {tys : Array TypeId} {vs : List Value} {R : Value → World → Prop} (hk : goFn P k = true) (ha : args.toList.map (ev f) = vs) (hd : Nat.blt d n = true) (hc : CallsR P k vs.toArray w R)
    (h : ∀ v w', R v w' → WpO P n ops K l (up f d v) w') : WpO P n ops K (⟨some d, .call ⟨.value (.func k), args, tys⟩, ty, pos, aft, none⟩ :: l) f w :=
  Ha (R := R) (k := k) (args := vs.toArray) rfl hd (by
    have : args.map (ev f) = vs.toArray := by rw [← ha]; apply Array.ext'; simp
    simp [execOp, resolve, ev, Deferred.ofValue, invoke, this, Gb hk]) hc h
theorem Nu {t : Operand} {k : FuncId} {args : Array Operand} {tys : Array TypeId} {vs cs : List Value} {R : Value → World → Prop} (hk : goFn P k = true) (ht : ev f t = .func (.func k) #[] cs.toArray) (ha : args.toList.map (ev f) = vs) (hd : Nat.blt d n = true)
    (hc : CallsR P k (vs ++ cs).toArray w R) (h : ∀ v w', R v w' → WpO P n ops K l (up f d v) w') : WpO P n ops K (⟨some d, .call ⟨.value t, args, tys⟩, ty, pos, aft, none⟩ :: l) f w :=
  Ha (R := R) (k := k) (args := (vs ++ cs).toArray) rfl hd (by
    have : args.map (ev f) = vs.toArray := by rw [← ha]; apply Array.ext'; simp
    simp [execOp, resolve, ht, Deferred.ofValue, invoke, this, Gb hk]) hc h
end
end Go.Dw
end
section
namespace Go.Dw
open Go.RowKit
def befores (ops : List Oper) : List (List Nat) :=
  (ops.foldl (init := []) fun acc o =>
    acc ++ [o.after.toList.foldl (init := 0) fun s e => if Region.binds .any e then Nat.lor s (Nat.lor (Nat.shiftLeft 1 e.on) (acc.getD e.on 0)) else s]).map fun k => (List.range ops.length).filter (Nat.testBit k)
def looks (ops : List Oper) (o : Oper) : List Nat :=
  (o.op.operands.toList.filterMap fun | .tmp t => some t | _ => none) ++
  (match o.guard with
   | some (g, _) => ((ops[g]?).bind (·.dst)).toList
   | none => [])
def notSel (o : Oper) : Bool := match o.op with | .select .. => false | _ => true
def drawOne (n m : Nat) (ops : List Oper) (bs : List (List Nat)) (i : Nat) (o : Oper) : Bool :=
  o.after.toList.all (fun e => !Region.binds .any e || decide (e.on < i)) &&
  (bs.getD i []).all (fun j => o.after.toList.any fun e => Region.binds .any e && (e.on == j || (bs.getD e.on []).contains j)) &&
  (if i < m then
    notSel o && (match o.dst with | some d => decide (d < n) | none => false) &&
    (looks ops o).all fun t => (List.range m).all fun j => (match ops[j]? with | some oj => oj.dst != some t | none => true) || (bs.getD i []).contains j
   else (List.range i).all fun j => (bs.getD i []).contains j)
def tailOne (m : Nat) (bs : List (List Nat)) (i : Nat) (o : Oper) : Bool :=
  o.after.toList.all (fun e => !Region.binds .any e || decide (e.on < i)) &&
  (bs.getD i []).all (fun j => o.after.toList.any fun e => Region.binds .any e && (e.on == j || (bs.getD e.on []).contains j)) &&
  (decide (i < m) || (List.range i).all fun j => (bs.getD i []).contains j)
theorem Lk {n m : Nat} {ops : List Oper} {bs : List (List Nat)} {i : Nat} {o : Oper} (h : drawOne n m ops bs i o = true) : tailOne m bs i o = true := by
  unfold drawOne at h
  unfold tailOne
  simp only [Bool.and_eq_true] at h ⊢
  refine ⟨h.1, ?_⟩
  rcases Nat.lt_or_ge i m with h' | h'
  · simp [h']
  · have := h.2
    rw [if_neg (by omega)] at this
    rw [this, Bool.or_true]
def drawOkI (m : Nat) (ops : List Oper) (bs : List (List Nat)) : Bool :=
  decide (m ≤ ops.length) && (List.range ops.length).all fun i => match ops[i]? with | some o => tailOne m bs i o | none => true
def drawOk (n m : Nat) (ops : List Oper) (bs : List (List Nat)) : Bool :=
  decide (m ≤ ops.length) &&
  (List.range m).all (fun i => (List.range m).all fun j => i == j || (match ops[i]?, ops[j]? with | some oi, some oj => oi.dst != oj.dst | _, _ => true)) &&
  (List.range ops.length).all fun i => match ops[i]? with | some o => drawOne n m ops bs i o | none => true
def ups (f : Fr) : List (Nat × Value) → Fr
  | [] => f
  | (d, v) :: r => ups (up f d v) r
def YlL (P : Program) (n : Nat) (ops : Array Oper) (Inv : World → Prop) (F : Fr) : List Oper → List (Nat × Value) → Prop
  | [], [] => True
  | o :: l, (d, v) :: r => o.dst = some d ∧ (∀ w, Inv w → WpO P n ops (fun f' w' => f' = up F d v ∧ Inv w') [o] F w) ∧ YlL P n ops Inv F l r
  | _, _ => False
theorem Y8 {P : Program} {n : Nat} {ops : Array Oper} {Inv : World → Prop} {F : Fr} : YlL P n ops Inv F [] [] := trivial
theorem Qh {P : Program} {n : Nat} {ops : Array Oper} {Inv : World → Prop} {F : Fr} {o : Oper} {l : List Oper} {d : Nat} {v : Value} {r : List (Nat × Value)} (hd : o.dst = some d)
    (h : ∀ w, Inv w → WpO P n ops (fun f' w' => f' = up F d v ∧ Inv w') [o] F w) (t : YlL P n ops Inv F l r) : YlL P n ops Inv F (o :: l) ((d, v) :: r) := ⟨hd, h, t⟩
theorem Nz {ρ ρ' : Operand → Value} {o : Oper} (hs : notSel o = true) (h : ∀ x ∈ o.op.operands, ρ x = ρ' x) : execOp ρ o = execOp ρ' o := by
  obtain ⟨dst, op, ty, pos, aft, gd⟩ := o
  have hcall : ∀ c : Call, (∀ x ∈ c.operands, ρ x = ρ' x) → resolve ρ c ty = resolve ρ' c ty := by
    intro c hc
    have hargs : c.args.map ρ = c.args.map ρ' := Array.map_congr_left fun x hx => hc x (by simp [Call.operands, hx])
    unfold resolve
    rw [hargs]
    cases hcal : c.callee with
    | value g => simp only; rw [hc g (by simp [Call.operands, hcal])]
    | invoke r nm => simp only; rw [hc r (by simp [Call.operands, hcal])]
    | builtin b => rfl
  cases op with
  | select cs b => cases hs
  | call c => simp only [execOp]; rw [hcall c (by simpa [Op.operands] using h)]
  | go c => simp only [execOp]; rw [hcall c (by simpa [Op.operands] using h)]
  | defer c => simp only [execOp]; rw [hcall c (by simpa [Op.operands] using h)]
  | build t ps =>
    simp only [execOp]
    have : (ps.map fun (i, x) => (i, ρ x)) = (ps.map fun (i, x) => (i, ρ' x)) := Array.map_congr_left fun p hp => by
      have := h p.2 (by simp only [Op.operands]; simp; exact ⟨p.1, hp⟩)
      simp [this]
    rw [this]
  | buildSlice t k ps =>
    simp only [execOp]
    have : (ps.map fun (i, x) => (i, ρ x)) = (ps.map fun (i, x) => (i, ρ' x)) := Array.map_congr_left fun p hp => by
      have := h p.2 (by simp only [Op.operands]; simp; exact ⟨p.1, hp⟩)
      simp [this]
    rw [this]
  | makeFunc fn a b =>
    simp only [execOp]
    rw [Array.map_congr_left (f := ρ) (g := ρ') (xs := a) fun x hx => h x (by simp [Op.operands, hx]), Array.map_congr_left (f := ρ) (g := ρ') (xs := b) fun x hx => h x (by simp [Op.operands, hx])]
  | makeMap t r =>
    simp only [execOp]
    cases r with
    | none => rfl
    | some x => simp only [Option.map_some]; rw [h x (by simp [Op.operands])]
  | slice t x lo hi mx =>
    simp only [execOp]
    have hx := h x (by simp [Op.operands])
    have hlo : lo.map ρ = lo.map ρ' := by cases lo with | none => rfl | some y => simp only [Option.map_some]; rw [h y (by simp [Op.operands])]
    have hhi : hi.map ρ = hi.map ρ' := by cases hi with | none => rfl | some y => simp only [Option.map_some]; rw [h y (by simp [Op.operands])]
    have hmx : mx.map ρ = mx.map ρ' := by cases mx with | none => rfl | some y => simp only [Option.map_some]; rw [h y (by simp [Op.operands])]
    rw [hx, hlo, hhi, hmx]
  | binOp bo t x y yt => simp only [execOp]; rw [h x (by simp [Op.operands]), h y (by simp [Op.operands])]
  | pick c a b => simp only [execOp]; rw [h c (by simp [Op.operands]), h a (by simp [Op.operands]), h b (by simp [Op.operands])]
  | nilCheck x => simp only [execOp]; rw [h x (by simp [Op.operands])]
  | alloc t => rfl
  | ready g => rfl
  | waits g => rfl
  | store t x y => simp only [execOp]; rw [h x (by simp [Op.operands]), h y (by simp [Op.operands])]
  | makeSlice t x y => simp only [execOp]; rw [h x (by simp [Op.operands]), h y (by simp [Op.operands])]
  | indexAddr t x y => simp only [execOp]; rw [h x (by simp [Op.operands]), h y (by simp [Op.operands])]
  | index t x y => simp only [execOp]; rw [h x (by simp [Op.operands]), h y (by simp [Op.operands])]
  | lookup t x y ok => simp only [execOp]; rw [h x (by simp [Op.operands]), h y (by simp [Op.operands])]
  | mapEntry t x y => simp only [execOp]; rw [h x (by simp [Op.operands]), h y (by simp [Op.operands])]
  | mapUpdate t x y z => simp only [execOp]; rw [h x (by simp [Op.operands]), h y (by simp [Op.operands]), h z (by simp [Op.operands])]
  | entryStore t x y z => simp only [execOp]; rw [h x (by simp [Op.operands]), h y (by simp [Op.operands]), h z (by simp [Op.operands])]
  | insert t x y z => simp only [execOp]; rw [h x (by simp [Op.operands]), h y (by simp [Op.operands]), h z (by simp [Op.operands])]
  | send x y => simp only [execOp]; rw [h x (by simp [Op.operands]), h y (by simp [Op.operands])]
  | move x => simp only [execOp]; rw [h x (by simp [Op.operands])]
  | assign x => simp only [execOp]; rw [h x (by simp [Op.operands])]
  | box t x => simp only [execOp]; rw [h x (by simp [Op.operands])]
  | load t x => simp only [execOp]; rw [h x (by simp [Op.operands])]
  | unOp u t x => simp only [execOp]; rw [h x (by simp [Op.operands])]
  | convert s t x => simp only [execOp]; rw [h x (by simp [Op.operands])]
  | sliceToArrayPointer t x => simp only [execOp]; rw [h x (by simp [Op.operands])]
  | makeInterface t x => simp only [execOp]; rw [h x (by simp [Op.operands])]
  | makeChan t x => simp only [execOp]; rw [h x (by simp [Op.operands])]
  | fieldAddr t x i => simp only [execOp]; rw [h x (by simp [Op.operands])]
  | field t x i => simp only [execOp]; rw [h x (by simp [Op.operands])]
  | range t x => simp only [execOp]; rw [h x (by simp [Op.operands])]
  | next x b => simp only [execOp]; rw [h x (by simp [Op.operands])]
  | entry x => simp only [execOp]; rw [h x (by simp [Op.operands])]
  | typeAssert x t u b => simp only [execOp]; rw [h x (by simp [Op.operands])]
  | extract x i => simp only [execOp]; rw [h x (by simp [Op.operands])]
  | panic x => simp only [execOp]; rw [h x (by simp [Op.operands])]
  | recv t x b => simp only [execOp]; rw [h x (by simp [Op.operands])]
theorem Pu (ops : Array Oper) (t t' : Array Value) (j : Nat) (h : ∀ o d, ops[j]? = some o → o.dst = some d → t.getD d undef = t'.getD d undef) : yielded ops t j = yielded ops t' j := by
  unfold yielded
  cases ho : ops[j]? with
  | none => rfl
  | some o =>
    cases hd : o.dst with
    | none => simp [hd]
    | some d =>
      have := h o d ho hd
      simp only [Option.bind_some, hd]
      rw [Array.getD_eq_getD_getElem?, Array.getD_eq_getD_getElem?] at this
      cases h1 : t[d]? with
      | none =>
        cases h2 : t'[d]? with
        | none => rfl
        | some y => rw [h1, h2] at this; simp at this; subst this; rfl
      | some x =>
        cases h2 : t'[d]? with
        | none => rw [h1, h2] at this; simp at this; subst this; rfl
        | some y => rw [h1, h2] at this; simp at this; rw [this]
section
variable {P : Program} {n : Nat} {ops : List Oper} {F : Fr} {Inv : World → Prop}
theorem loc {i d : Nat} {o : Oper} {v : Value} {w : World} {a aF : Act} (ho : ops[i]? = some o) (hs : notSel o = true) (hd : o.dst = some d) (hdn : d < n) (hF : FEq n aF F)
    (h : WpO P n ops.toArray (fun f' w' => f' = up F d v ∧ Inv w') [o] F w) (hl : ∀ t ∈ looks ops o, a.tmps.getD t undef = F t)
    {K : Act → World → Prop} {Q : Exit → Act → World → Prop} (hK : ∀ w', Inv w' → K (a.put (some d) v) w') : wpOp P ops.toArray Q i K a w := by
  have h1 := h aF hF (fun e a' w' => e = .normal ∧ ∃ f', FEq n a' f' ∧ f' = up F d v ∧ Inv w') (fun a' w' f' hf hk => ⟨rfl, f', hf, hk⟩)
  have hout : ¬ LetsOut (fun (e : Exit) (a' : Act) (w' : World) => e = .normal ∧ ∃ f', FEq n a' f' ∧ f' = up F d v ∧ Inv w') := by
    rintro ⟨_, _, he, _⟩
    cases he
  have hval : ∀ u w', (∃ f', FEq n (aF.put (some d) u) f' ∧ f' = up F d v ∧ Inv w') → u = v ∧ Inv w' := by
    rintro u w' ⟨f', hf, rfl, hi⟩
    refine ⟨?_, hi⟩
    have e1 := hf.at_ d
    rw [Nr, if_pos rfl] at e1
    rw [← e1]
    simp [Act.put, Array.getD, hF.size, hdn]
  have he : execOp a.eval o = execOp aF.eval o := Nz hs fun x hx => by
    cases x with
    | tmp t =>
      show a.tmps.getD t undef = aF.tmps.getD t undef
      rw [hl t (by simp only [looks]; refine List.mem_append_left _ (List.mem_filterMap.2 ⟨_, by simpa using hx, rfl⟩)), hF.at_ t]
    | _ => rfl
  have hw : Region.wanted o (yielded ops.toArray a.tmps) = Region.wanted o (yielded ops.toArray aF.tmps) := by
    unfold Region.wanted
    cases hg : o.guard with
    | none => rfl
    | some g =>
      obtain ⟨j, b⟩ := g
      simp only
      rw [Pu _ a.tmps aF.tmps j]
      intro oj dj hoj hdj
      rw [hF.at_ dj]
      refine hl dj ?_
      simp only [looks, hg]
      refine List.mem_append_right _ ?_
      have hoj' : ops[j]? = some oj := by simpa using hoj
      simp [hoj', hdj]
  have ho' : ops.toArray[i]? = some o := by simpa using ho
  have hK' : ∀ w', Inv w' → K (a.put o.dst v) w' := by rw [hd]; exact hK
  have hval' : ∀ u w', (∃ f', FEq n (aF.put o.dst u) f' ∧ f' = up F d v ∧ Inv w') → u = v ∧ Inv w' := by rw [hd]; exact hval
  unfold wpOp
  rw [ho']
  simp only
  unfold wpList at h1
  rw [hw]
  split
  · rename_i hwt
    rw [if_pos hwt] at h1
    rcases h1 with h1 | ⟨_, h1⟩
    · left
      unfold Oper.wp at h1 ⊢
      rw [he]
      generalize (execOp aF.eval o).run P w = r at h1 ⊢
      cases r with
      | ok x w' =>
        cases x <;> simp only [Oper.upon, wpList] at h1 ⊢
        case value u =>
          obtain ⟨rfl, hi⟩ := hval' u w' h1.2
          exact hK' w' hi
        case skip =>
          obtain ⟨e, hi⟩ := hval' undef w' h1.2
          rw [e]; exact hK' w' hi
        case defer dd =>
          obtain ⟨f', hf, _⟩ := h1.2
          exact absurd hf.defers (by rw [hd]; simp [Act.put])
        case enter k args =>
          refine h1.mono fun e w'' hh => ?_
          cases e with
          | returned u =>
            obtain ⟨rfl, hi⟩ := hval' u w'' hh.2
            exact hK' w'' hi
          | panicked c => exact absurd hh.1 (by simp)
          | outgrown => exact (hout hh).elim
        case row r args =>
          refine h1.mono fun u w'' hh => ?_
          obtain ⟨rfl, hi⟩ := hval' u w'' hh.2
          exact hK' w'' hi
      | halt x w' =>
        cases x <;> simp only [Oper.upon] at h1 ⊢
        case panic u => exact absurd h1.1 (by simp)
    · exact (hout h1).elim
  · rename_i hwt
    rw [if_neg hwt] at h1
    simp only [wpList] at h1
    obtain ⟨e, hi⟩ := hval' undef w h1.2
    rw [e]
    exact hK' w hi
theorem U9 {md : Region.Mode} {m : Nat} {bs : List (List Nat)} {Q : Exit → Act → World → Prop} (hmd : md = .any) (hck : ∀ i o, ops[i]? = some o → tailOne m bs i o = true) (hbs : ∀ (listed : Array Bool) (i : Nat) (o : Oper), ops[i]? = some o →
      (∀ e ∈ o.after, Region.binds .any e = true → listed.getD e.on false = true) → (∀ j, listed.getD j false = true → ∀ q ∈ bs.getD j [], listed.getD q false = true) → ∀ q ∈ bs.getD i [], listed.getD q false = true) :
    ∀ (fuel k : Nat) (listed : Array Bool) (a : Act) (w : World), m ≤ k → k ≤ ops.length → listed.size = ops.length → (∀ j, j < k → listed.getD j false = true) → (∀ j, k ≤ j → j < ops.length → listed.getD j false = false) →
      (∀ j, listed.getD j false = true → ∀ q ∈ bs.getD j [], listed.getD q false = true) → ops.length - k ≤ fuel → wpList P ops.toArray Q (ops.drop k) a w → wpAny P md ops.toArray Q fuel listed a w := by
  subst hmd
  intro fuel
  induction fuel with
  | zero =>
    intro k listed a w hmk hk hsz h1 h2 hcl hf h
    have hke : k = ops.length := by omega
    subst hke
    refine ⟨?_, by simpa [wpList] using h⟩
    unfold Region.ready
    rw [List.filter_eq_nil_iff]
    intro i hi
    have hi' : i < ops.length := by simpa using hi
    have hl := h1 i hi'
    have : listed.getD i true = true := by
      rw [Array.getD_eq_getD_getElem?] at hl ⊢
      cases hx : listed[i]? with
      | none => rfl
      | some b => rw [hx] at hl; simpa using hl
    simp [this]
  | succ fuel ih =>
    intro k listed a w hmk hk hsz h1 h2 hcl hf h
    have hready : ∀ i, i ∈ Region.ready .any ops.toArray listed → i = k ∧ k < ops.length := by
      intro i hi
      obtain ⟨hun, o, ho, hall⟩ := mem_ready.1 hi
      have ho' : ops[i]? = some o := by simpa using ho
      have hil : i < ops.length := (List.getElem?_eq_some_iff.1 ho').1
      have hun' : listed.getD i false = false := by
        rw [Array.getD_eq_getD_getElem?] at hun ⊢
        cases hx : listed[i]? with
        | none => rfl
        | some b => rw [hx] at hun; simpa using hun
      have hik : k ≤ i := by
        rcases Nat.lt_or_ge i k with h' | h'
        · rw [h1 i h'] at hun'; cases hun'
        · exact h'
      have hpre := hbs listed i o ho' (fun e he hb => hall e he hb) hcl
      have hone := hck i o ho'
      unfold tailOne at hone
      simp only [Bool.and_eq_true] at hone
      have h3 := hone.2
      rw [show decide (i < m) = false by simp; omega, Bool.false_or] at h3
      refine ⟨?_, by omega⟩
      rcases Nat.lt_or_ge k i with h' | h'
      · have := List.all_eq_true.1 h3 k (by simpa using h')
        have hmem : k ∈ bs.getD i [] := by simpa using this
        have := hpre k hmem
        rw [h2 k (Nat.le_refl _) (by omega)] at this
        cases this
      · omega
    rcases Nat.lt_or_ge k ops.length with hkl | hkl
    · obtain ⟨o, ho⟩ : ∃ o, ops[k]? = some o := ⟨_, List.getElem?_eq_getElem hkl⟩
      have hdrop : ops.drop k = o :: ops.drop (k + 1) := by
        rw [List.drop_eq_getElem_cons hkl]
        congr 1
        rw [List.getElem?_eq_getElem hkl] at ho
        exact Option.some.inj ho
      rw [hdrop] at h
      refine ⟨fun hnil => ?_, fun i hi => ?_⟩
      · exfalso
        have hkr : k ∈ Region.ready .any ops.toArray listed := by
          refine mem_ready.2 ⟨?_, o, by simpa using ho, fun e he hb => ?_⟩
          · have := h2 k (Nat.le_refl _) hkl
            rw [Array.getD_eq_getD_getElem?, Array.getElem?_eq_getElem (by omega)] at this ⊢
            simpa using this
          · have hone := hck k o ho
            unfold tailOne at hone
            simp only [Bool.and_eq_true] at hone
            have := List.all_eq_true.1 hone.1.1 e (by simpa using he)
            simp only [hb, Bool.not_true, Bool.false_or, decide_eq_true_eq] at this
            exact h1 _ this
        rw [hnil] at hkr
        cases hkr
      · obtain ⟨rfl, _⟩ := hready i hi
        have ho' : ops.toArray[i]? = some o := by simpa using ho
        have hnext : ∀ a w, wpList P ops.toArray Q (ops.drop (i + 1)) a w → wpAny P .any ops.toArray Q fuel (listed.setIfInBounds i true) a w := fun a w hh =>
          ih (i + 1) _ a w (by omega) hkl (by simp [hsz]) (fun j hj => by
            rcases Nat.lt_or_ge j i with h' | h'
            · have := h1 j h'
              rw [Array.getD_eq_getD_getElem?] at this ⊢
              rw [Array.getElem?_setIfInBounds_ne (by omega)]; exact this
            · have : j = i := by omega
              subst this
              rw [Array.getD_eq_getD_getElem?, Array.getElem?_setIfInBounds_self_of_lt (by omega)]; rfl)
            (fun j hj hjl => by
              have := h2 j (by omega) hjl
              rw [Array.getD_eq_getD_getElem?] at this ⊢
              rw [Array.getElem?_setIfInBounds_ne (by omega)]; exact this)
            (fun j hj q hq => by
              have hq' : listed.getD q false = true := by
                rcases Nat.decEq j i with hne | he
                · refine hcl j ?_ q hq
                  rw [Array.getD_eq_getD_getElem?, Array.getElem?_setIfInBounds_ne (fun e => hne e.symm)] at hj
                  rw [Array.getD_eq_getD_getElem?]; exact hj
                · subst he
                  obtain ⟨_, o2, ho2, hall⟩ := mem_ready.1 hi
                  exact hbs listed j o2 (by simpa using ho2) (fun e he hb => hall e he hb) hcl q hq
              rw [Array.getD_eq_getD_getElem?] at hq' ⊢
              by_cases hqi : q = i
              · subst hqi
                rw [Array.getElem?_setIfInBounds_self_of_lt (by omega)]; rfl
              · rw [Array.getElem?_setIfInBounds_ne (fun e => hqi e.symm)]; exact hq')
            (by omega) hh
        unfold wpOp
        rw [ho']
        simp only
        unfold wpList at h
        split
        · rename_i hw
          rw [if_pos hw] at h
          exact h.imp (Oper.wp_mono hnext) id
        · rename_i hw
          rw [if_neg hw] at h
          exact hnext _ _ h
    · have hke : k = ops.length := by omega
      subst hke
      refine ⟨fun _ => by simpa [wpList] using h, fun i hi => ?_⟩
      have := (hready i hi).2
      omega
end
def cnt (listed : Array Bool) : Nat → Nat
  | 0 => 0
  | k + 1 => cnt listed k + (if listed.getD k false then 0 else 1)
theorem Kt {listed : Array Bool} {i : Nat} (h : i < listed.size) : (listed.setIfInBounds i true).getD i false = true := by
  rw [Array.getD_eq_getD_getElem?, Array.getElem?_setIfInBounds_self_of_lt h]; rfl
theorem Jy {listed : Array Bool} {i j : Nat} (h : j ≠ i) : (listed.setIfInBounds i true).getD j false = listed.getD j false := by
  rw [Array.getD_eq_getD_getElem?, Array.getElem?_setIfInBounds_ne (fun e => h e.symm), Array.getD_eq_getD_getElem?]
theorem H6 {listed : Array Bool} {m : Nat} : ∀ k, (∀ j, m ≤ j → j < k → listed.getD j false = false) → k - m ≤ cnt listed k
  | 0, _ => by simp
  | k + 1, h => by
    have ih := H6 k fun j h1 h2 => h j h1 (by omega)
    unfold cnt
    rcases Nat.lt_or_ge k m with hk | hk
    · omega
    · rw [h k hk (by omega)]; simp; omega
theorem H7 {listed : Array Bool} : ∀ k, cnt listed k = 0 → ∀ j, j < k → listed.getD j false = true
  | 0, _, j, hj => by omega
  | k + 1, h, j, hj => by
    unfold cnt at h
    rcases Nat.lt_or_ge j k with hk | hk
    · exact H7 k (by omega) j hk
    · have : j = k := by omega
      subst this
      cases hx : listed.getD j false with
      | true => rfl
      | false => rw [hx] at h; simp at h
theorem Hg {listed : Array Bool} {i : Nat} : ∀ k, k ≤ i → cnt (listed.setIfInBounds i true) k = cnt listed k
  | 0, _ => rfl
  | k + 1, h => by
    unfold cnt
    rw [Hg k (by omega), Jy (by omega)]
theorem Ny {listed : Array Bool} {i : Nat} (hs : i < listed.size) (hi : listed.getD i false = false) : ∀ k, i < k → cnt (listed.setIfInBounds i true) k + 1 = cnt listed k
  | 0, h => by omega
  | k + 1, h => by
    unfold cnt
    rcases Nat.lt_or_ge i k with hk | hk
    · have := Ny hs hi k hk
      rw [Jy (by omega)]
      omega
    · have : i = k := by omega
      subst this
      rw [Hg i (Nat.le_refl _), Kt hs, hi]
      simp
theorem Gj (N : Nat) : ∀ k, cnt (Array.replicate N false) k = k
  | 0 => rfl
  | k + 1 => by
    unfold cnt
    rw [Gj N k]
    have : (Array.replicate N false).getD k false = false := by
      rw [Array.getD_eq_getD_getElem?]
      cases h : (Array.replicate N false)[k]? with
      | none => rfl
      | some b =>
        rw [Array.getElem?_replicate] at h
        split at h <;> simp_all
    rw [this]; simp
theorem Il {p : Nat → Bool} : ∀ m, (¬ ∀ j, j < m → p j = true) → ∃ j, j < m ∧ p j = false ∧ ∀ i, i < j → p i = true
  | 0, h => absurd (fun j hj => by omega) h
  | m + 1, h => by
    by_cases h' : ∀ j, j < m → p j = true
    · refine ⟨m, by omega, ?_, h'⟩
      cases hx : p m with
      | false => rfl
      | true =>
        exfalso
        apply h
        intro j hj
        rcases Nat.lt_or_ge j m with hk | hk
        · exact h' j hk
        · have : j = m := by omega
          rw [this]; exact hx
    · obtain ⟨j, hj, h1, h2⟩ := Il m h'
      exact ⟨j, by omega, h1, h2⟩
theorem Pn {t : Nat} : ∀ (r : List (Nat × Value)) (f : Fr), (∀ p ∈ r, p.1 ≠ t) → ups f r t = f t
  | [], _, _ => rfl
  | (d, v) :: r, f, h => by
    unfold ups
    rw [Pn r _ fun p hp => h p (by simp [hp]), Nr, if_neg]
    exact fun e => h (d, v) (by simp) e.symm
theorem Tn {d : Nat} {v : Value} : ∀ (r : List (Nat × Value)) (f : Fr) (i : Nat), r[i]? = some (d, v) → (∀ j p, r[j]? = some p → p.1 = d → j = i) → ups f r d = v
  | [], _, _, h, _ => by simp at h
  | (d', v') :: r, f, 0, h, hu => by
    simp at h
    obtain ⟨rfl, rfl⟩ := h
    unfold ups
    rw [Pn r _ fun p hp e => by
      obtain ⟨j, hj⟩ := List.getElem?_of_mem hp
      have := hu (j + 1) p (by simpa using hj) e
      omega]
    rw [Nr, if_pos rfl]
  | (d', v') :: r, f, i + 1, h, hu => by
    unfold ups
    exact Tn r _ i (by simpa using h) fun j p hj e => by
      have := hu (j + 1) p (by simpa using hj) e
      omega
theorem Pm {n : Nat} : ∀ (r : List (Nat × Value)) (a : Act) (f : Fr), FEq n a f → (∀ p ∈ r, p.1 < n) → ∃ a', FEq n a' (ups f r)
  | [], a, _, h, _ => ⟨a, h⟩
  | (d, v) :: r, a, f, h, hr => Pm r _ _ (h.put (d := d) (by simpa [Nat.blt_eq] using hr (d, v) (by simp)) v) fun p hp => hr p (by simp [hp])
section
variable {P : Program} {n : Nat} {ops : List Oper} {F f : Fr} {Inv : World → Prop}
theorem Hw {opsA : Array Oper} : ∀ (l : List Oper) (r : List (Nat × Value)), YlL P n opsA Inv F l r → l.length = r.length ∧ ∀ (i : Nat) (o : Oper), l[i]? = some o → ∃ (d : Nat) (v : Value), r[i]? = some (d, v) ∧ o.dst = some d ∧ ∀ w, Inv w → WpO P n opsA (fun f' w' => f' = up F d v ∧ Inv w') [o] F w
  | [], [], _ => ⟨rfl, fun i o h => by simp at h⟩
  | [], _ :: _, h => h.elim
  | _ :: _, [], h => h.elim
  | o :: l, (d, v) :: r, ⟨h1, h2, h3⟩ => by
    obtain ⟨hl, hg⟩ := Hw l r h3
    refine ⟨by simp [hl], fun i o' h => ?_⟩
    cases i with
    | zero =>
      simp at h
      subst h
      exact ⟨d, v, rfl, h1, h2⟩
    | succ i => simpa using hg i o' (by simpa using h)
theorem Wg {m : Nat} {bs : List (List Nat)} (hck : drawOk n m ops bs = true) : m ≤ ops.length ∧ (∀ i j oi oj, i < m → j < m → i ≠ j → ops[i]? = some oi → ops[j]? = some oj → oi.dst ≠ oj.dst) ∧ ∀ i o, ops[i]? = some o → drawOne n m ops bs i o = true := by
  unfold drawOk at hck
  simp only [Bool.and_eq_true, decide_eq_true_eq] at hck
  obtain ⟨⟨h1, h2⟩, h3⟩ := hck
  refine ⟨h1, fun i j oi oj hi hj hne hoi hoj => ?_, fun i o ho => ?_⟩
  · have := List.all_eq_true.1 (List.all_eq_true.1 h2 i (by simpa using hi)) j (by simpa using hj)
    rw [hoi, hoj] at this
    simp [hne] at this
    exact this
  · have := List.all_eq_true.1 h3 i (by simpa using (List.getElem?_eq_some_iff.1 ho).1)
    rw [ho] at this
    exact this
theorem V3 {m : Nat} {bs : List (List Nat)} {i : Nat} {o : Oper} (h : drawOne n m ops bs i o = true) (listed : Array Bool) (hall : ∀ e ∈ o.after, Region.binds .any e = true → listed.getD e.on false = true)
    (hcl : ∀ j, listed.getD j false = true → ∀ q ∈ bs.getD j [], listed.getD q false = true) : ∀ q ∈ bs.getD i [], listed.getD q false = true := by
  intro q hq
  unfold drawOne at h
  simp only [Bool.and_eq_true] at h
  have := List.all_eq_true.1 h.1.2 q hq
  obtain ⟨e, he, hb⟩ := List.any_eq_true.1 this
  simp only [Bool.and_eq_true, Bool.or_eq_true, beq_iff_eq] at hb
  obtain ⟨hbi, hb | hb⟩ := hb
  · rw [← hb]; exact hall e (by simpa using he) hbi
  · exact hcl e.on (hall e (by simpa using he) hbi) q (by simpa using hb)
theorem Lo {m : Nat} {bs : List (List Nat)} {vals : List (Nat × Value)} {K : Fr → World → Prop} {Q : Exit → Act → World → Prop} {aF : Act} (hck : drawOk n m ops bs = true) (hF : F = ups f vals) (haF : FEq n aF F)
    (hpre : YlL P n ops.toArray Inv F (ops.take m) vals) (htail : ∀ w, Inv w → WpO P n ops.toArray K (ops.drop m) F w) (hQ : ∀ a' w' f', FEq n a' f' → K f' w' → Q .normal a' w') :
    ∀ (fuel : Nat) (listed : Array Bool) (a : Act) (w : World), a.defers = [] → a.tmps.size = n → listed.size = ops.length → Inv w → (∀ j, m ≤ j → listed.getD j false = false) →
      (∀ j, listed.getD j false = true → ∀ q ∈ bs.getD j [], listed.getD q false = true) →
      (∀ t, (∀ j o, j < m → listed.getD j false = true → ops[j]? = some o → o.dst ≠ some t) → a.tmps.getD t undef = f t) →
      (∀ j o t, j < m → listed.getD j false = true → ops[j]? = some o → o.dst = some t → a.tmps.getD t undef = F t) → cnt listed ops.length ≤ fuel → wpAny P .any ops.toArray Q fuel listed a w := by
  obtain ⟨hm, hdist, hone⟩ := Wg hck
  obtain ⟨hlen, hget⟩ := Hw _ _ hpre
  have htk : ∀ i o, i < m → ops[i]? = some o → (ops.take m)[i]? = some o := fun i o hi ho => by rw [List.getElem?_take, if_pos hi]; exact ho
  have hFd : ∀ i o d v, i < m → ops[i]? = some o → vals[i]? = some (d, v) → o.dst = some d → F d = v := fun i o d v hi ho hv hd => by
    rw [hF]
    refine Tn vals f i hv fun j p hj e => ?_
    have hjm : j < m := by
      have := (List.getElem?_eq_some_iff.1 hj).1
      rw [← hlen] at this
      simp at this
      omega
    rcases Nat.decEq j i with hne | he
    · exfalso
      obtain ⟨oj, hoj⟩ : ∃ oj, ops[j]? = some oj := ⟨_, List.getElem?_eq_getElem (by omega)⟩
      obtain ⟨d', v', hv', hd', _⟩ := hget j oj (htk j oj hjm hoj)
      rw [hj] at hv'
      have := Option.some.inj hv'
      subst this
      exact hdist j i oj o hjm hi hne hoj ho (by rw [hd', hd, ← e])
    · exact he
  have hFo : ∀ t, (∀ j o, j < m → ops[j]? = some o → o.dst ≠ some t) → F t = f t := fun t ht => by
    rw [hF]
    refine Pn vals f fun p hp e => ?_
    obtain ⟨j, hj⟩ := List.getElem?_of_mem hp
    have hjm : j < m := by
      have := (List.getElem?_eq_some_iff.1 hj).1
      rw [← hlen] at this
      simp at this
      omega
    obtain ⟨oj, hoj⟩ : ∃ oj, ops[j]? = some oj := ⟨_, List.getElem?_eq_getElem (by omega)⟩
    obtain ⟨d', v', hv', hd', _⟩ := hget j oj (htk j oj hjm hoj)
    rw [hj] at hv'
    have := Option.some.inj hv'
    subst this
    exact ht j oj hjm hoj (by rw [hd', ← e])
  intro fuel
  induction fuel with
  | zero =>
    intro listed a w had hsz hls hi hlow hcl hout hin hcnt
    have hz := H7 _ (Nat.le_zero.1 hcnt)
    refine U9 rfl (fun i o ho => Lk (hone i o ho)) (fun l i o ho hall hc => V3 (hone i o ho) l hall hc) 0 m listed a w (Nat.le_refl _) hm hls (fun j hj => hz j (by omega)) (fun j hj _ => hlow j hj) hcl ?_ ?_
    · have := H6 (listed := listed) (m := m) ops.length fun j h1 _ => hlow j h1
      omega
    · refine htail w hi a ⟨had, hsz, fun t => ?_⟩ Q hQ
      by_cases hx : ∃ j o, j < m ∧ ops[j]? = some o ∧ o.dst = some t
      · obtain ⟨j, o, hj, ho, hd⟩ := hx
        exact hin j o t hj (hz j (by omega)) ho hd
      · rw [hFo t fun j o hj ho hd => hx ⟨j, o, hj, ho, hd⟩]
        exact hout t fun j o hj _ ho hd => hx ⟨j, o, hj, ho, hd⟩
  | succ fuel ih =>
    intro listed a w had hsz hls hi hlow hcl hout hin hcnt
    by_cases hall : ∀ j, j < m → listed.getD j false = true
    · refine U9 rfl (fun i o ho => Lk (hone i o ho)) (fun l i o ho hall hc => V3 (hone i o ho) l hall hc) (fuel + 1) m listed a w (Nat.le_refl _) hm hls hall (fun j hj _ => hlow j hj) hcl ?_ ?_
      · have := H6 (listed := listed) (m := m) ops.length fun j h1 _ => hlow j h1
        omega
      · refine htail w hi a ⟨had, hsz, fun t => ?_⟩ Q hQ
        by_cases hx : ∃ j o, j < m ∧ ops[j]? = some o ∧ o.dst = some t
        · obtain ⟨j, o, hj, ho, hd⟩ := hx
          exact hin j o t hj (hall j hj) ho hd
        · rw [hFo t fun j o hj ho hd => hx ⟨j, o, hj, ho, hd⟩]
          exact hout t fun j o hj _ ho hd => hx ⟨j, o, hj, ho, hd⟩
    · obtain ⟨j0, hj0, hun0, hbelow⟩ := Il m hall
      refine ⟨fun hnil => ?_, fun i hir => ?_⟩
      · exfalso
        obtain ⟨o, ho⟩ : ∃ o, ops[j0]? = some o := ⟨_, List.getElem?_eq_getElem (by omega)⟩
        have hkr : j0 ∈ Region.ready .any ops.toArray listed := by
          refine mem_ready.2 ⟨?_, o, by simpa using ho, fun e he hb => ?_⟩
          · rw [Array.getD_eq_getD_getElem?, Array.getElem?_eq_getElem (by omega)] at hun0 ⊢
            simpa using hun0
          · have h1 := hone j0 o ho
            unfold drawOne at h1
            simp only [Bool.and_eq_true] at h1
            have := List.all_eq_true.1 h1.1.1 e (by simpa using he)
            simp only [hb, Bool.not_true, Bool.false_or, decide_eq_true_eq] at this
            exact hbelow _ this
        rw [hnil] at hkr
        cases hkr
      · obtain ⟨hun, o, ho, hafter⟩ := mem_ready.1 hir
        have ho' : ops[i]? = some o := by simpa using ho
        have hil : i < ops.length := (List.getElem?_eq_some_iff.1 ho').1
        have hun' : listed.getD i false = false := by
          rw [Array.getD_eq_getD_getElem?, Array.getElem?_eq_getElem (by omega)] at hun ⊢
          simpa using hun
        have hprei := V3 (hone i o ho') listed (fun e he hb => hafter e he hb) hcl
        have h1 := hone i o ho'
        unfold drawOne at h1
        simp only [Bool.and_eq_true] at h1
        obtain ⟨_, h1⟩ := h1
        have him : i < m := by
          rcases Nat.lt_or_ge i m with h' | h'
          · exact h'
          · exfalso
            rw [if_neg (by omega)] at h1
            have := List.all_eq_true.1 h1 j0 (by simp; omega)
            have := hprei j0 (by simpa using this)
            rw [hun0] at this
            cases this
        rw [if_pos him] at h1
        simp only [Bool.and_eq_true] at h1
        obtain ⟨⟨hsel, hdn⟩, hlooks⟩ := h1
        obtain ⟨d, v, hv, hd, hwp⟩ := hget i o (htk i o him ho')
        rw [hd] at hdn
        have hdn' : d < n := by simpa using hdn
        refine loc ho' hsel hd hdn' haF (hwp w hi) (fun t ht => ?_) fun w' hi' => ?_
        · have h2 := List.all_eq_true.1 hlooks t ht
          by_cases hx : ∃ j oj, j < m ∧ ops[j]? = some oj ∧ oj.dst = some t
          · obtain ⟨j, oj, hj, hoj, hdj⟩ := hx
            have h3 := List.all_eq_true.1 h2 j (by simpa using hj)
            rw [hoj] at h3
            simp [hdj] at h3
            exact hin j oj t hj (hprei j (by simpa using h3)) hoj hdj
          · rw [hFo t fun j o hj ho hd => hx ⟨j, o, hj, ho, hd⟩]
            exact hout t fun j o hj _ ho hd => hx ⟨j, o, hj, ho, hd⟩
        · have hput : ∀ t, t ≠ d → (a.put (some d) v).tmps.getD t undef = a.tmps.getD t undef := fun t ht => by
            simp only [Act.put]
            rw [Array.getD_eq_getD_getElem?, Array.getElem?_setIfInBounds_ne (fun e => ht e.symm), Array.getD_eq_getD_getElem?]
          have hputd : (a.put (some d) v).tmps.getD d undef = v := by
            simp only [Act.put]
            rw [Array.getD_eq_getD_getElem?, Array.getElem?_setIfInBounds_self_of_lt (by omega)]; rfl
          have hFv : F d = v := hFd i o d v him ho' hv hd
          refine ih _ _ w' had (by simp [Act.put, hsz]) (by simp [hls]) hi' (fun j hj => by rw [Jy (by omega)]; exact hlow j hj) (fun j hj q hq => ?_) (fun t ht => ?_) (fun j oj t hj hlj hoj hdj => ?_) ?_
          · have hq' : listed.getD q false = true := by
              rcases Nat.decEq j i with hne | he
              · rw [Jy hne] at hj
                exact hcl j hj q hq
              · subst he
                exact hprei q hq
            by_cases hqi : q = i
            · rw [hqi]; exact Kt (by omega)
            · rw [Jy hqi]; exact hq'
          · have htd : t ≠ d := fun e => ht i o him (Kt (by omega)) ho' (by rw [hd, e])
            rw [hput t htd]
            exact hout t fun j oj hj hlj hoj => ht j oj hj (by
              by_cases hji : j = i
              · rw [hji]; exact Kt (by omega)
              · rw [Jy hji]; exact hlj) hoj
          · rcases Nat.decEq t d with htd | htd
            · rw [hput t htd]
              rcases Nat.decEq j i with hne | he
              · rw [Jy hne] at hlj
                exact hin j oj t hj hlj hoj hdj
              · subst he
                rw [ho'] at hoj
                obtain rfl := Option.some.inj hoj
                rw [hd] at hdj
                exact absurd (Option.some.inj hdj).symm htd
            · subst htd
              rw [hputd, hFv]
          · have := Ny (listed := listed) (i := i) (by omega) hun' ops.length hil
            omega
theorem Yy {id : Nat} {w : World} {Q : Exit → Fr → World → Prop} (m : Nat) (vals : List (Nat × Value)) (Inv : World → Prop) (hmx : P.follows .mixedOrders = true) (hck : drawOk n m ops (befores ops) = true) (h0 : Inv w.drew)
    (hpre : YlL P n ops.toArray Inv (ups f vals) (ops.take m) vals) (htail : ∀ w', Inv w' → WpO P n ops.toArray (Q .normal) (ops.drop m) (ups f vals) w') : Wpf P n Q (.region id ops.toArray true) f w := fun a ha => by
  obtain ⟨hm, _, hone⟩ := Wg hck
  obtain ⟨hlen, hget⟩ := Hw _ _ hpre
  obtain ⟨aF, haF⟩ := Pm vals a f ha fun p hp => by
    obtain ⟨j, hj⟩ := List.getElem?_of_mem hp
    have hjm : j < m := by
      have := (List.getElem?_eq_some_iff.1 hj).1
      rw [← hlen] at this
      simp at this
      omega
    obtain ⟨oj, hoj⟩ : ∃ oj, ops[j]? = some oj := ⟨_, List.getElem?_eq_getElem (by omega)⟩
    obtain ⟨d, v, hv, hd, _⟩ := hget j oj (by rw [List.getElem?_take, if_pos hjm]; exact hoj)
    rw [hj] at hv
    have := Option.some.inj hv
    subst this
    have h1 := hone j oj hoj
    unfold drawOne at h1
    simp only [Bool.and_eq_true, if_pos hjm, hd] at h1
    simpa using h1.2.1.2
  refine wp_region_any hmx ?_
  have hrep : ∀ j, (Array.replicate ops.toArray.size false).getD j false = false := fun j => by
    rw [Array.getD_eq_getD_getElem?]
    cases h : (Array.replicate ops.toArray.size false)[j]? with
    | none => rfl
    | some b => rw [Array.getElem?_replicate] at h; split at h <;> simp_all
  refine Lo (K := Q .normal) hck rfl haF hpre htail (fun a' w' f' hf hK => ⟨f', hf, hK⟩) _ _ a _ ha.defers ha.size (by simp) h0 (fun j _ => hrep j) (fun j hj => by rw [hrep j] at hj; cases hj) (fun t _ => ha.at_ t) (fun j o t _ hj => by rw [hrep j] at hj; cases hj) ?_
  rw [show ops.toArray.size = ops.length by simp, Gj]
  exact Nat.le_refl _
theorem X8 (w : World) {r : Option Nat} : w.grownBy w.drew r := ⟨rfl, rfl, rfl, Nat.le_refl _, fun _ _ _ => rfl⟩
theorem To {c : Code} {w : World} {Q : Exit → Fr → World → Prop} (M : Fr → World → Prop) (h : Wpf P n (thn M Q) c f w) (hM : ∀ f w, M f w → Q .normal f w) : Wpf P n Q c f w :=
  h.mono fun e f w hq => by cases e <;> first | exact hM _ _ hq | exact hq
end
section
variable {P : Program} {n : Nat} {ops : List Oper} {f : Fr}
theorem Xdo {i : Nat} {o : Oper} {w : World} {a : Act} {F : Fr} {K1 : Fr → World → Prop} (ho : ops[i]? = some o) (hF : FEq n a F) (h : WpO P n ops.toArray K1 [o] F w)
    {K : Act → World → Prop} {Q : Exit → Act → World → Prop} (hK : ∀ a' w' f', FEq n a' f' → K1 f' w' → K a' w') : wpOp P ops.toArray Q i K a w := by
  have h1 := h a hF (fun e a' w' => e = .normal ∧ ∃ f', FEq n a' f' ∧ K1 f' w') (fun a' w' f' hf hk => ⟨rfl, f', hf, hk⟩)
  have hout : ¬ LetsOut (fun (e : Exit) (a' : Act) (w' : World) => e = .normal ∧ ∃ f', FEq n a' f' ∧ K1 f' w') := by
    rintro ⟨_, _, he, _⟩
    cases he
  have hK' : ∀ a' w', (∃ f', FEq n a' f' ∧ K1 f' w') → K a' w' := fun a' w' ⟨f', hf, hk⟩ => hK a' w' f' hf hk
  have ho' : ops.toArray[i]? = some o := by simpa using ho
  unfold wpOp
  rw [ho']
  simp only
  unfold wpList at h1
  split
  · rename_i hwt
    rw [if_pos hwt] at h1
    rcases h1 with h1 | ⟨_, h1⟩
    · left
      unfold Oper.wp at h1 ⊢
      generalize (execOp a.eval o).run P w = r at h1 ⊢
      cases r with
      | ok x w' =>
        cases x <;> simp only [Oper.upon, wpList] at h1 ⊢
        case value u => exact hK' _ _ h1.2
        case skip => exact hK' _ _ h1.2
        case defer dd => exact hK' _ _ h1.2
        case enter k args =>
          refine h1.mono fun e w'' hh => ?_
          cases e with
          | returned u => exact hK' _ _ hh.2
          | panicked c => exact absurd hh.1 (by simp)
          | outgrown => exact (hout hh).elim
        case row r args => exact h1.mono fun u w'' hh => hK' _ _ hh.2
      | halt x w' =>
        cases x <;> simp only [Oper.upon] at h1 ⊢
        case panic u => exact absurd h1.1 (by simp)
    · exact (hout h1).elim
  · rename_i hwt
    rw [if_neg hwt] at h1
    simp only [wpList] at h1
    exact hK' _ _ h1.2
theorem V7 {m : Nat} {bs : List (List Nat)} {i : Nat} {o : Oper} (h : tailOne m bs i o = true) (listed : Array Bool) (hall : ∀ e ∈ o.after, Region.binds .any e = true → listed.getD e.on false = true)
    (hcl : ∀ j, listed.getD j false = true → ∀ q ∈ bs.getD j [], listed.getD q false = true) : ∀ q ∈ bs.getD i [], listed.getD q false = true := by
  intro q hq
  unfold tailOne at h
  simp only [Bool.and_eq_true] at h
  have := List.all_eq_true.1 h.1.2 q hq
  obtain ⟨e, he, hb⟩ := List.any_eq_true.1 this
  simp only [Bool.and_eq_true, Bool.or_eq_true, beq_iff_eq] at hb
  obtain ⟨hbi, hb | hb⟩ := hb
  · rw [← hb]; exact hall e (by simpa using he) hbi
  · exact hcl e.on (hall e (by simpa using he) hbi) q (by simpa using hb)
theorem M4 {listed : Array Bool} {i : Nat} (h : i < listed.size) : (fun j => (listed.setIfInBounds i true).getD j false) = fun j => j == i || listed.getD j false := by
  funext j
  by_cases hj : j = i
  · subst hj; rw [Kt h]; simp
  · rw [Jy hj]; simp [hj]
theorem R4 {m : Nat} {bs : List (List Nat)} {I : (Nat → Bool) → Fr → World → Prop} {K : Fr → World → Prop} {Q : Exit → Act → World → Prop} (hm : m ≤ ops.length) (hone : ∀ i o, ops[i]? = some o → tailOne m bs i o = true)
    (hpre : ∀ i o, i < m → ops[i]? = some o → ∀ S F w, S i = false → (∀ j ∈ bs.getD i [], S j = true) → (∀ j, S j = true → ∀ q ∈ bs.getD j [], S q = true) → I S F w →
      WpO P n ops.toArray (fun F' w' => I (fun j => j == i || S j) F' w') [o] F w)
    (htail : ∀ S F w, (∀ j, j < m → S j = true) → I S F w → WpO P n ops.toArray K (ops.drop m) F w) (hQ : ∀ a' w' f', FEq n a' f' → K f' w' → Q .normal a' w') :
    ∀ (fuel : Nat) (listed : Array Bool) (a : Act) (F : Fr) (w : World), FEq n a F → listed.size = ops.length → I (fun j => listed.getD j false) F w → (∀ j, m ≤ j → listed.getD j false = false) →
      (∀ j, listed.getD j false = true → ∀ q ∈ bs.getD j [], listed.getD q false = true) → cnt listed ops.length ≤ fuel → wpAny P .any ops.toArray Q fuel listed a w := by
  intro fuel
  induction fuel with
  | zero =>
    intro listed a F w ha hls hi hlow hcl hcnt
    have hz := H7 _ (Nat.le_zero.1 hcnt)
    refine U9 rfl hone (fun l i o ho hall hc => V7 (hone i o ho) l hall hc) 0 m listed a w (Nat.le_refl _) hm hls (fun j hj => hz j (by omega)) (fun j hj _ => hlow j hj) hcl ?_ ?_
    · have := H6 (listed := listed) (m := m) ops.length fun j h1 _ => hlow j h1
      omega
    · exact htail _ F w (fun j hj => hz j (by omega)) hi a ha Q hQ
  | succ fuel ih =>
    intro listed a F w ha hls hi hlow hcl hcnt
    by_cases hall : ∀ j, j < m → listed.getD j false = true
    · refine U9 rfl hone (fun l i o ho hall hc => V7 (hone i o ho) l hall hc) (fuel + 1) m listed a w (Nat.le_refl _) hm hls hall (fun j hj _ => hlow j hj) hcl ?_ ?_
      · have := H6 (listed := listed) (m := m) ops.length fun j h1 _ => hlow j h1
        omega
      · exact htail _ F w hall hi a ha Q hQ
    · obtain ⟨j0, hj0, hun0, hbelow⟩ := Il m hall
      refine ⟨fun hnil => ?_, fun i hir => ?_⟩
      · exfalso
        obtain ⟨o, ho⟩ : ∃ o, ops[j0]? = some o := ⟨_, List.getElem?_eq_getElem (by omega)⟩
        have hkr : j0 ∈ Region.ready .any ops.toArray listed := by
          refine mem_ready.2 ⟨?_, o, by simpa using ho, fun e he hb => ?_⟩
          · rw [Array.getD_eq_getD_getElem?, Array.getElem?_eq_getElem (by omega)] at hun0 ⊢
            simpa using hun0
          · have h1 := hone j0 o ho
            unfold tailOne at h1
            simp only [Bool.and_eq_true] at h1
            have := List.all_eq_true.1 h1.1.1 e (by simpa using he)
            simp only [hb, Bool.not_true, Bool.false_or, decide_eq_true_eq] at this
            exact hbelow _ this
        rw [hnil] at hkr
        cases hkr
      · obtain ⟨hun, o, ho, hafter⟩ := mem_ready.1 hir
        have ho' : ops[i]? = some o := by simpa using ho
        have hil : i < ops.length := (List.getElem?_eq_some_iff.1 ho').1
        have hun' : listed.getD i false = false := by
          rw [Array.getD_eq_getD_getElem?, Array.getElem?_eq_getElem (by omega)] at hun ⊢
          simpa using hun
        have hprei := V7 (hone i o ho') listed (fun e he hb => hafter e he hb) hcl
        have him : i < m := by
          rcases Nat.lt_or_ge i m with h' | h'
          · exact h'
          · exfalso
            have h1 := hone i o ho'
            unfold tailOne at h1
            simp only [Bool.and_eq_true] at h1
            have h3 := h1.2
            rw [show decide (i < m) = false by simp; omega, Bool.false_or] at h3
            have := List.all_eq_true.1 h3 j0 (by simp; omega)
            have := hprei j0 (by simpa using this)
            rw [hun0] at this
            cases this
        refine Xdo ho' ha (hpre i o him ho' _ F w hun' hprei hcl hi) fun a' w' f' hf hI => ?_
        refine ih _ _ f' w' hf (by simp [hls]) ?_ (fun j hj => by rw [Jy (by omega)]; exact hlow j hj) (fun j hj q hq => ?_) ?_
        · rw [M4 (by omega)]; exact hI
        · have hq' : listed.getD q false = true := by
            rcases Nat.decEq j i with hne | he
            · rw [Jy hne] at hj
              exact hcl j hj q hq
            · subst he
              exact hprei q hq
          by_cases hqi : q = i
          · rw [hqi]; exact Kt (by omega)
          · rw [Jy hqi]; exact hq'
        · have := Ny (listed := listed) (i := i) (by omega) hun' ops.length hil
          omega
def PreL (P : Program) (n : Nat) (ops : Array Oper) (bs : List (List Nat)) (I : (Nat → Bool) → Fr → World → Prop) : Nat → List Oper → Prop
  | _, [] => True
  | i, o :: l => (∀ S F w, S i = false → (∀ j ∈ bs.getD i [], S j = true) → (∀ j, S j = true → ∀ q ∈ bs.getD j [], S q = true) → I S F w → WpO P n ops (fun F' w' => I (fun j => j == i || S j) F' w') [o] F w) ∧ PreL P n ops bs I (i + 1) l
theorem Jb {ops : Array Oper} {bs : List (List Nat)} {I : (Nat → Bool) → Fr → World → Prop} {i : Nat} : PreL P n ops bs I i [] := trivial
theorem Xi {ops : Array Oper} {bs : List (List Nat)} {I : (Nat → Bool) → Fr → World → Prop} {i : Nat} {o : Oper} {l : List Oper}
    (h : ∀ S F w, S i = false → (∀ j ∈ bs.getD i [], S j = true) → (∀ j, S j = true → ∀ q ∈ bs.getD j [], S q = true) → I S F w → WpO P n ops (fun F' w' => I (fun j => j == i || S j) F' w') [o] F w)
    (t : PreL P n ops bs I (i + 1) l) : PreL P n ops bs I i (o :: l) := ⟨h, t⟩
theorem Rv {opsA : Array Oper} {bs : List (List Nat)} {I : (Nat → Bool) → Fr → World → Prop} : ∀ (l : List Oper) (k i : Nat) (o : Oper), PreL P n opsA bs I k l → l[i]? = some o →
    ∀ S F w, S (k + i) = false → (∀ j ∈ bs.getD (k + i) [], S j = true) → (∀ j, S j = true → ∀ q ∈ bs.getD j [], S q = true) → I S F w → WpO P n opsA (fun F' w' => I (fun j => j == k + i || S j) F' w') [o] F w
  | [], _, _, _, _, ho => by simp at ho
  | p :: l, k, 0, o, h, ho => by
    obtain rfl : p = o := by simpa using ho
    exact h.1
  | p :: l, k, i + 1, o, h, ho => by
    have := Rv l (k + 1) i o h.2 (by simpa using ho)
    rwa [show k + 1 + i = k + (i + 1) by omega] at this
theorem Qv {id : Nat} {w : World} {Q : Exit → Fr → World → Prop} (m : Nat) (bs : List (List Nat)) (I : (Nat → Bool) → Fr → World → Prop) (hmx : P.follows .mixedOrders = true) (hck : drawOkI m ops bs = true) (h0 : I (fun _ => false) f w.drew)
    (hpre : PreL P n ops.toArray bs I 0 (ops.take m)) (htail : ∀ S F w, (∀ j, j < m → S j = true) → I S F w → WpO P n ops.toArray (Q .normal) (ops.drop m) F w) : Wpf P n Q (.region id ops.toArray true) f w := fun a ha => by
  unfold drawOkI at hck
  simp only [Bool.and_eq_true, decide_eq_true_eq] at hck
  obtain ⟨hm, hck⟩ := hck
  have hone : ∀ i o, ops[i]? = some o → tailOne m bs i o = true := fun i o ho => by
    have := List.all_eq_true.1 hck i (by simpa using (List.getElem?_eq_some_iff.1 ho).1)
    rw [ho] at this
    exact this
  refine wp_region_any hmx ?_
  have hrep : ∀ j, (Array.replicate ops.toArray.size false).getD j false = false := fun j => by
    rw [Array.getD_eq_getD_getElem?]
    cases h : (Array.replicate ops.toArray.size false)[j]? with
    | none => rfl
    | some b => rw [Array.getElem?_replicate] at h; split at h <;> simp_all
  refine R4 (K := Q .normal) hm hone (fun i o hi ho S F w h1 h2 h3 h4 => ?_) htail (fun a' w' f' hf hK => ⟨f', hf, hK⟩) _ _ a f _ ha (by simp) (by simp only [hrep]; exact h0) (fun j _ => hrep j) (fun j hj => by rw [hrep j] at hj; cases hj) ?_
  · have := Rv _ 0 i o hpre (by rw [List.getElem?_take, if_pos hi]; exact ho) S F w (by simpa using h1) (by simpa using h2) h3 h4
    simpa using this
  · rw [show ops.toArray.size = ops.length by simp, Gj]
    exact Nat.le_refl _
theorem Ym {C : Prop} (h : false = true) : C := by cases h
theorem Jq {C : Prop} (h : true = false) : C := by cases h
theorem Xv {S : (Nat → Bool)} {bs : List (List Nat)} {C : Prop} {i : Nat} (j : Nat) (hi : S i = false) (hcl : ∀ j, S j = true → ∀ q ∈ bs.getD j [], S q = true) (hq : (bs.getD j []).contains i = true) (h : S j = true) : C := by
  have := hcl j h i (by simpa using hq)
  rw [hi] at this
  cases this
theorem Xl {S : (Nat → Bool)} {bs : List (List Nat)} {i : Nat} (j : Nat) (h : ∀ j ∈ bs.getD i [], S j = true) (hq : (bs.getD i []).contains j = true) : S j = true := h j (by simpa using hq)
end
def Vals (S : Nat → Bool) (F : Fr) : List (Nat × Nat × Value) → Prop
  | [] => True
  | x :: l => (S x.1 = true → F x.2.1 = x.2.2) ∧ Vals S F l
def vnew (i d : Nat) : List (Nat × Nat × Value) → Bool
  | [] => true
  | x :: l => !Nat.beq x.1 i && !Nat.beq x.2.1 d && vnew i d l
def vnew0 (i : Nat) : List (Nat × Nat × Value) → Bool
  | [] => true
  | x :: l => !Nat.beq x.1 i && vnew0 i l
def vold (i d : Nat) : Nat → List (Nat × Nat × Value) → Bool
  | _, [] => true
  | 0, _ :: l => vnew i d l
  | k + 1, x :: l => !Nat.beq x.1 i && !Nat.beq x.2.1 d && vold i d k l
theorem J2 {F : Fr} : ∀ l, Vals (fun _ => false) F l
  | [] => trivial
  | _ :: l => ⟨(fun h => by cases h), J2 l⟩
theorem Vals.at {S : Nat → Bool} {F : Fr} : ∀ {l : List (Nat × Nat × Value)} (k : Nat) {i d : Nat} {v : Value}, Vals S F l → l[k]? = some (i, d, v) → S i = true → F d = v
  | [], _, _, _, _, _, h, _ => by simp at h
  | _ :: _, 0, _, _, _, hv, h, hs => by
    simp at h
    subst h
    exact hv.1 hs
  | _ :: _, k + 1, _, _, _, hv, h, hs => Vals.at k hv.2 (by simpa using h) hs
theorem Oj {a b : Nat} (h : (!Nat.beq a b) = true) : ¬ a = b := fun e => by
  subst e
  rw [Nat.beq_refl] at h
  cases h
theorem Vals.keep {S : Nat → Bool} {F : Fr} {i d : Nat} {v : Value} : ∀ {l : List (Nat × Nat × Value)}, Vals S F l → vnew i d l = true → Vals (fun j => j == i || S j) (up F d v) l
  | [], _, _ => trivial
  | x :: _, hv, h => by
    unfold vnew at h
    rw [Bool.and_eq_true, Bool.and_eq_true] at h
    refine ⟨fun hs => ?_, Vals.keep hv.2 h.2⟩
    rw [Nr, if_neg (Oj h.1.2)]
    simp only [beq_iff_eq, Bool.or_eq_true] at hs
    exact hv.1 (hs.resolve_left (Oj h.1.1))
theorem Vals.keep0 {S : Nat → Bool} {F : Fr} {i : Nat} : ∀ {l : List (Nat × Nat × Value)}, Vals S F l → vnew0 i l = true → Vals (fun j => j == i || S j) F l
  | [], _, _ => trivial
  | x :: _, hv, h => by
    unfold vnew0 at h
    rw [Bool.and_eq_true] at h
    refine ⟨fun hs => ?_, Vals.keep0 hv.2 h.2⟩
    simp only [beq_iff_eq, Bool.or_eq_true] at hs
    exact hv.1 (hs.resolve_left (Oj h.1))
theorem Vals.up {S : Nat → Bool} {F : Fr} {i d : Nat} {u v : Value} : ∀ {l : List (Nat × Nat × Value)} (k : Nat), Vals S F l → l[k]? = some (i, d, v) → vold i d k l = true → Go.Dw.up F d u d = v → Vals (fun j => j == i || S j) (Go.Dw.up F d u) l
  | [], _, _, h, _, _ => by simp at h
  | x :: _, 0, hv, h1, h2, h3 => by
    simp at h1
    subst h1
    exact ⟨fun _ => h3, Vals.keep hv.2 h2⟩
  | x :: _, k + 1, hv, h1, h, h3 => by
    unfold vold at h
    rw [Bool.and_eq_true, Bool.and_eq_true] at h
    refine ⟨fun hs => ?_, Vals.up k hv.2 (by simpa using h1) h.2 h3⟩
    rw [Nr, if_neg (Oj h.1.2)]
    simp only [beq_iff_eq, Bool.or_eq_true] at hs
    exact hv.1 (hs.resolve_left (Oj h.1.1))
theorem yl {P : Program} {n : Nat} {ops : Array Oper} {Inv : World → Prop} {F : Fr} {o : Oper} {l : List Oper} {d : Nat} {v : Value} {r : List (Nat × Value)} (hd : o.dst = some d)
    (h : ∀ w, Inv w → WpO P n ops (fun f' w' => f' = up F d v ∧ Inv w') [] (up F d v) w → WpO P n ops (fun f' w' => f' = up F d v ∧ Inv w') [o] F w) (t : YlL P n ops Inv F l r) : YlL P n ops Inv F (o :: l) ((d, v) :: r) :=
  Qh hd (fun w hi => h w hi (Xb ⟨rfl, hi⟩)) t
end Go.Dw
end
section
namespace Go.Dw
set_option linter.unusedSimpArgs false
set_option linter.unusedVariables false
open Go.RowKit
def Wide {α : Type} (g : α → List Value) (sz : Nat) : Prop := ∀ a, (g a).length = sz
theorem Qx : Wide Rt.cells 5 := fun _ => rfl
theorem Yq : Wide icell 1 := fun _ => rfl
theorem Yj : Wide MTh.cells 8 := fun _ => rfl
theorem Vf : ∀ q : Rt, ∀ u ∈ q.cells, u.oneCell' = true := fun q u hu => by simp [Rt.cells] at hu; rcases hu with rfl | rfl | rfl | rfl | rfl <;> rfl
theorem Jz : ∀ q : Int, ∀ u ∈ icell q, u.oneCell' = true := fun q u hu => by simp [icell] at hu; subst hu; rfl
theorem Ke : ∀ q : MTh, ∀ u ∈ q.cells, u.oneCell' = true := fun q u hu => by simp [MTh.cells] at hu; rcases hu with rfl | rfl | rfl | rfl | rfl | rfl | rfl | rfl <;> rfl
section
variable {α : Type} {g : α → List Value} {sz : Nat}
theorem J1 (hg : Wide g sz) : ∀ ys : List α, (ys.flatMap g).length = ys.length * sz
  | [] => by simp
  | y :: ys => by
    simp only [List.flatMap_cons, List.length_append, J1 hg ys, List.length_cons, hg y, Nat.add_mul]
    omega
theorem W2 (hg : Wide g sz) : ∀ (ys : List α) (k : Nat), (ys.flatMap g).drop (k * sz) = (ys.drop k).flatMap g
  | ys, 0 => by simp
  | [], k + 1 => by simp
  | y :: ys, k + 1 => by
    rw [List.flatMap_cons, List.drop_append, List.drop_eq_nil_of_le (by rw [hg y, Nat.add_mul]; omega), hg y, List.nil_append, show (k + 1) * sz - sz = k * sz by rw [Nat.add_mul]; omega, W2 hg ys k]
    rfl
theorem Nm (hg : Wide g sz) : ∀ (ys : List α) (k : Nat), (ys.flatMap g).take (k * sz) = (ys.take k).flatMap g
  | ys, 0 => by simp
  | [], k + 1 => by simp
  | y :: ys, k + 1 => by
    rw [List.flatMap_cons, List.take_append, List.take_of_length_le (by rw [hg y, Nat.add_mul]; omega), hg y, show (k + 1) * sz - sz = k * sz by rw [Nat.add_mul]; omega, Nm hg ys k]
    rfl
theorem U1 {ys : List α} {k : Nat} {x : α} (hk : ys[k]? = some x) : ys.drop k = x :: ys.drop (k + 1) := by
  obtain ⟨hl, rfl⟩ := List.getElem?_eq_some_iff.1 hk
  exact List.drop_eq_getElem_cons hl
theorem Wo (hg : Wide g sz) {ys : List α} {k : Nat} {x : α} (hk : ys[k]? = some x) {j : Nat} {v : Value} (hj : (g x)[j]? = some v) : (ys.flatMap g)[k * sz + j]? = some v := by
  have h := congrArg (fun l : List Value => l[j]?) (W2 hg ys k)
  simp only [List.getElem?_drop] at h
  rw [h, U1 hk, List.flatMap_cons, List.getElem?_append_left (List.getElem?_eq_some_iff.1 hj).1, hj]
theorem Nl (hg : Wide g sz) {ys : List α} {k : Nat} (hk : k < ys.length) (x : α) :
    ((ys.flatMap g).toArray.toList.take (k * sz) ++ g x ++ (ys.flatMap g).toArray.toList.drop (k * sz + sz)).toArray = ((ys.set k x).flatMap g).toArray := by
  have e : k * sz + sz = (k + 1) * sz := by rw [Nat.add_mul]; omega
  rw [e, Nm hg, W2 hg, List.set_eq_take_append_cons_drop, if_pos hk]
  simp [List.flatMap_append]
theorem Zr (x : List Value) (l : List Value) (j : Nat) (v : Value) (hj : j < x.length) : (x ++ l).set j v = x.set j v ++ l := by
  rw [List.set_append_left _ _ hj]
theorem Md (hg : Wide g sz) {ys : List α} {k : Nat} {x : α} (hk : ys[k]? = some x) (x' : α) {j : Nat} {v : Value} (hj : j < sz) (hv : (g x).set j v = g x') :
    (ys.flatMap g).toArray.setIfInBounds (k * sz + j) v = ((ys.set k x').flatMap g).toArray := by
  have hl := (List.getElem?_eq_some_iff.1 hk).1
  have e : (ys.flatMap g) = (ys.take k).flatMap g ++ (g x ++ (ys.drop (k + 1)).flatMap g) := by
    conv => lhs; rw [← List.take_append_drop k ys, List.flatMap_append, U1 hk, List.flatMap_cons]
  have hlen : ((ys.take k).flatMap g).length = k * sz := by rw [J1 hg, List.length_take, Nat.min_eq_left (Nat.le_of_lt hl)]
  rw [List.setIfInBounds_toArray]
  refine congrArg List.toArray ?_
  rw [e, List.set_append_right _ _ (by omega), hlen, show k * sz + j - k * sz = j by omega, Zr _ _ _ _ (by rw [hg]; exact hj), hv, List.set_eq_take_append_cons_drop, if_pos hl, List.flatMap_append, List.flatMap_cons]
theorem Tk (hg : Wide g sz) {ys : List α} {k : Nat} (hk : k < ys.length) : k * sz + sz ≤ (ys.flatMap g).toArray.size := by
  rw [List.size_toArray, J1 hg]
  have : (k + 1) * sz ≤ ys.length * sz := Nat.mul_le_mul_right _ hk
  rwa [Nat.add_mul, Nat.one_mul] at this
theorem Zp (hg : Wide g sz) {ys : List α} {k : Nat} (hk : k < ys.length) {j : Nat} (hj : j < sz) : k * sz + j < (ys.flatMap g).toArray.size := by
  have := Tk hg hk
  omega
theorem Iz (hg : Wide g sz) {L : List α} {k : Nat} {x : α} (hx : L[k]? = some x) {j : Nat} (hj : j < sz) : k * sz + j < (L.flatMap g).toArray.size := Zp hg (List.getElem?_eq_some_iff.1 hx).1 hj
theorem Qs (hg : Wide g sz) {ys : List α} {w : World} {B : Nat} {T : TypeId} (h : Blk w B T (ys.flatMap g).toArray) {k : Nat} {x : α} (hk : ys[k]? = some x) : w.rangeAt B (k * sz) (g x) :=
  h.range fun j v hj => by
    rw [List.getElem?_toArray]
    exact Wo hg hk hj
theorem Jo (hg : Wide g sz) {ys : List α} {w : World} {B : Nat} {T : TypeId} (h : Blk w B T (ys.flatMap g).toArray) : SlAt w (some ⟨B, 0, none⟩) sz (ys.map g) := fun k x hk => by
  rw [List.getElem?_map] at hk
  cases hy : ys[k]? with
  | none => rw [hy] at hk; simp at hk
  | some y =>
    rw [hy] at hk
    obtain rfl : g y = x := by simpa using hk
    exact ⟨B, 0, rfl, by rw [Nat.zero_add]; exact Qs hg h hy⟩
theorem T4 {z : α} (hg : Wide g sz) (h0 : 0 < sz) : ∀ c : Nat, madeCells (g z).toArray (c * sz) = ((List.replicate c z).flatMap g).toArray := fun c => by
  apply Array.ext'
  refine List.ext_getElem? fun i => ?_
  have hl : ((List.replicate c z).flatMap g).length = c * sz := by rw [J1 hg, List.length_replicate]
  by_cases hi : i < c * sz
  · have hd : i = (i / sz) * sz + i % sz := by rw [Nat.mul_comm]; exact (Nat.div_add_mod i sz).symm
    have hm : i % sz < sz := Nat.mod_lt _ h0
    have hq : i / sz < c := (Nat.div_lt_iff_lt_mul h0).2 hi
    have h1 : (List.replicate c z)[i / sz]? = some z := by simp [hq]
    have h2 : (g z)[i % sz]? = some ((g z)[i % sz]'(by rw [hg z]; exact hm)) := List.getElem?_eq_getElem (by rw [hg z]; exact hm)
    have h3 := Wo hg h1 h2
    rw [← hd] at h3
    simp only [List.toList_toArray]
    rw [h3]
    simp only [madeCells, Array.toList_map, Array.toList_range, List.getElem?_map, List.getElem?_range hi, Option.map_some, List.size_toArray, hg z]
    rw [getElem!_def, List.getElem?_toArray, h2]
  · rw [List.getElem?_eq_none (by simp [madeCells]; omega), List.getElem?_eq_none (by simp only [List.toList_toArray]; omega)]
end
def mkTy (P : Program) (t : TypeId) : Option (TypeId × Nat × Nat × Option Value) :=
  match P.underlying t with
  | some (.slice e) => (P.info? e).map fun i => (e, i.size, i.bytes, i.zero)
  | _ => none
section
variable {P : Program} {n : Nat} {ops : Array Oper} {K : Fr → World → Prop} {l : List Oper} {f : Fr} {w : World} {ty : TypeId} {pos : String} {aft : Array Edge} {d : Nat}
theorem Lr {α : Type} {g : α → List Value} {z : α} {t e sz bytes c : Nat} {v : Value} {x y : Operand} (ht : mkTy P t = some (e, sz, bytes, some v)) (hv : v.cells = (g z).toArray) (hg : Wide g sz) (h0 : 0 < sz)
    (hx : ev f x = .int .i64 (c : Int)) (hy : ev f y = .int .i64 (c : Int)) (hb : bytes * c ≤ 281474976710656) (h63 : c ≤ 9223372036854775807) (hd : Nat.blt d n = true)
    (h : ∀ B w', NewB w w' B e ((List.replicate c z).flatMap g).toArray → WpO P n ops K l (up f d (.slice (some ⟨B, 0, none⟩) c c)) w') : WpO P n ops K (⟨some d, .makeSlice t x y, ty, pos, aft, none⟩ :: l) f w := by
  unfold mkTy at ht
  split at ht
  · rename_i el hu
    cases hq : P.info? el with
    | none => rw [hq] at ht; cases ht
    | some i =>
      rw [hq] at ht
      simp only [Option.map_some, Option.some.injEq, Prod.mk.injEq] at ht
      obtain ⟨rfl, rfl, rfl, hz⟩ := ht
      have hr := run_make (P := P) w t el i v hu hq hz .i64 .i64 (c : Int) (c : Int) (by omega) (Int.le_refl _) (by omega) (by omega)
      rw [hv, Int.toNat_natCast, T4 hg h0] at hr
      exact Jc rfl hd (by simp only [execOp, hx, hy, Sem.run_bind, hr, Result.andThen_ok]; rfl) (h _ _ (U4 w el _))
  · cases ht
end
def bcell (n : Int) : List Value := [.int .u8 n]
theorem Zy {x y : Int} (hx : 0 ≤ x) (hx2 : x < 4611686018427387904) (hy : 0 ≤ y) (hy2 : y < 4611686018427387904) : 0 ≤ bits .xor .i64 x y ∧ bits .xor .i64 x y < 4611686018427387904 := by
  obtain ⟨m, rfl⟩ := Int.eq_ofNat_of_zero_le hx
  obtain ⟨k, rfl⟩ := Int.eq_ofNat_of_zero_le hy
  have h1 : m ^^^ k < 2 ^ 62 := Nat.xor_lt_two_pow (by omega) (by omega)
  have h2 : (BitVec.ofInt 64 (m : Int) ^^^ BitVec.ofInt 64 (k : Int)).toNat = m ^^^ k := by
    rw [BitVec.toNat_xor, BitVec.toNat_ofInt, BitVec.toNat_ofInt]
    congr 1 <;> omega
  have h3 : bits .xor .i64 (m : Int) (k : Int) = ((m ^^^ k : Nat) : Int) := by
    show IntKind.i64.wrap (((BitVec.ofInt 64 (m : Int) ^^^ BitVec.ofInt 64 (k : Int)).toNat : Nat) : Int) = _
    rw [h2, IntKind.wrap_i64]
    omega
  rw [h3]
  omega
def SlLt (lo : Nat) (w : World) (a : Option Addr) (sz : Nat) (xs : List (List Value)) : Prop := ∀ k x, xs[k]? = some x → ∃ b o, a = some ⟨b, o, none⟩ ∧ b < lo ∧ w.rangeAt b (o + k * sz) x
theorem SlLt.sl {lo : Nat} {w : World} {a : Option Addr} {sz : Nat} {xs : List (List Value)} (h : SlLt lo w a sz xs) : SlAt w a sz xs := fun k x hk => by
  obtain ⟨b, o, ha, _, hr⟩ := h k x hk
  exact ⟨b, o, ha, hr⟩
theorem SlLt.low0 {lo : Nat} {w w' : World} {a : Option Addr} {sz : Nat} {xs : List (List Value)} (h : SlLt lo w a sz xs) (hg : w.grownBy w' none) : SlLt lo w' a sz xs := fun k x hk => by
  obtain ⟨b, o, ha, hb, hx⟩ := h k x hk
  exact ⟨b, o, ha, hb, J0 hx hg (by simp)⟩
theorem SlLt.low1 {lo : Nat} {w w' : World} {a : Option Addr} {sz : Nat} {xs : List (List Value)} (h : SlLt lo w a sz xs) {c : Nat} (hg : w.grownBy w' (some c)) (hc : lo ≤ c) : SlLt lo w' a sz xs := fun k x hk => by
  obtain ⟨b, o, ha, hb, hx⟩ := h k x hk
  exact ⟨b, o, ha, hb, J0 hx hg (Jj (by omega))⟩
theorem SlLt.at {lo : Nat} {w : World} {a : Option Addr} {sz k : Nat} {xs : List (List Value)} {x : List Value} (h : SlLt lo w a sz xs) (hk : xs[k]? = some x) : ∃ b q o, a = some ⟨b, q, none⟩ ∧ q + k * sz = o ∧ b < lo ∧ w.rangeAt b o x := by
  obtain ⟨b, o, ha, hb, hr⟩ := h k x hk
  exact ⟨b, o, _, ha, rfl, hb, hr⟩
theorem SlLt.take {α : Type} {g : α → List Value} {lo : Nat} {w : World} {a : Option Addr} {sz : Nat} {xs : List α} (h : SlLt lo w a sz (xs.map g)) (m : Nat) : SlLt lo w a sz ((xs.take m).map g) := fun k x hk => by
  refine h k x ?_
  rw [List.getElem?_map, List.getElem?_take] at hk
  rw [List.getElem?_map]
  split at hk
  · exact hk
  · simp at hk
theorem SlAt.lt {α : Type} {g : α → List Value} {w : World} {a : Option Addr} {sz : Nat} {xs : List α} (hg : Wide g sz) (h0 : 0 < sz) (h : SlAt w a sz (xs.map g)) : SlLt w.heap.size w a sz (xs.map g) := fun k x hk => by
  obtain ⟨b, o, ha, hr⟩ := h k x hk
  refine ⟨b, o, ha, ?_, hr⟩
  rw [List.getElem?_map] at hk
  cases hy : xs[k]? with
  | none => rw [hy] at hk; simp at hk
  | some y =>
    rw [hy] at hk
    obtain rfl : g y = x := by simpa using hk
    obtain ⟨v, hv⟩ : ∃ v, (g y)[0]? = some v := ⟨_, List.getElem?_eq_getElem (by rw [hg y]; exact h0)⟩
    exact World.block_lt_of_cell? w _ (hr 0 v hv)
theorem Wr : Wide bcell 1 := fun _ => rfl
section
variable {P : Program} {n : Nat} {ops : Array Oper} {K : Fr → World → Prop} {l : List Oper} {f : Fr} {w : World} {ty : TypeId} {pos : String} {aft : Array Edge} {d : Nat}
theorem Zv {t : TypeId} {x y : Operand} {a : Option Addr} {m c h : Nat} {k : IntKind} {e sz : Nat} (ht : P.underlying t = some (.slice e)) (hs : (P.info? e).map (·.size) = some sz) (hx : ev f x = .slice a m c) (hy : ev f y = .int k (h : Int)) (hc : h ≤ c) (hd : Nat.blt d n = true)
    (hk : WpO P n ops K l (up f d (.slice a h c)) w) : WpO P n ops K (⟨some d, .slice t x none (some y) none, ty, pos, aft, none⟩ :: l) f w :=
  Jc rfl hd (by
    have h1 : (Instr.sliceBound (.int k (h : Int)) c .sliceAcap).run P w = .ok h w := by
      have : (0 : Int) ≤ (h : Int) ∧ (h : Int) ≤ (c : Int) := by omega
      simp [Instr.sliceBound, asIntOf, this]
    have h2 : (Instr.sliceBounds true m c none (some (.int k (h : Int))) none).run P w = .ok (0, h, c) w := by
      simp [Instr.sliceBounds, h1]
    cases hq : P.info? e with
    | none => rw [hq] at hs; cases hs
    | some i =>
      have hz : (sizeOf e).run P w = .ok i.size w := by simp [sizeOf, typeInfo, hq]
      have hv : (if c = 0 then a else a.map (·.add 0)) = a := by
        split
        · rfl
        · cases a with
          | none => rfl
          | some a => simp [Addr.add]
      have h3 : (Instr.slice t (.slice a m c) none (some (.int k (h : Int))) none).run P w = .ok (.slice a h c) w := by
        simp [Instr.slice, run_underlying ht, h2, hz, hv]
      have h4 : (Instr.sliceAt t (.slice a m c) none (some (.int k (h : Int))) none).run P w = .ok (.slice a h c) w := by
        simp [Instr.sliceAt, run_underlying ht, h3]
      simp only [execOp, hx, hy, Option.map_none, Option.map_some, Sem.run_bind, h4, Result.andThen_ok]
      rfl) hk
theorem X7 {t len : Nat} {parts : Array (Nat × Operand)} {ps : List (Nat × Value)} {e : TypeId} {cs : Array Value} (hp : parts.toList.map (fun p => (p.1, ev f p.2)) = ps)
    (hb : ∀ w, (Instr.buildSlice t len ps.toArray).run P w = .ok (.slice (some ⟨w.heap.size, 0, none⟩) len len) (w.alloc (.cells cs e))) (hd : Nat.blt d n = true)
    (h : ∀ B w', NewB w w' B e cs → WpO P n ops K l (up f d (.slice (some ⟨B, 0, none⟩) len len)) w') : WpO P n ops K (⟨some d, .buildSlice t len parts, ty, pos, aft, none⟩ :: l) f w :=
  Jc rfl hd (by
    have e : (parts.map fun p => (p.1, ev f p.2)) = ps.toArray := by rw [← hp]; apply Array.ext'; simp
    show ((do pure (Next.value (← Instr.buildSlice t len (parts.map fun p => (p.1, ev f p.2)))) : Sem Next)).run P w = _
    rw [e, Sem.run_bind, hb]
    rfl) (h _ _ (U4 w e cs))
end
theorem Xo {a b : World} {B C : Nat} {T : TypeId} {cs : Array Value} (h : NewB a b B T cs) (hk : C < a.heap.size) : C < B := by rw [h.eq]; exact hk
def Own (w : World) (B : Nat) (T : TypeId) (sz cap n : Nat) (vs : List Value) : Prop := w.ownsRow 0 T sz (.slice (some ⟨B, 0, none⟩) n cap) n vs
section
variable {w w' : World} {B : Nat} {T : TypeId} {sz cap n : Nat} {vs : List Value}
theorem Own.lt (h : Own w B T sz cap n vs) : B < w.heap.size := (World.ownsRow.lt h B rfl).2
theorem Own.grown (h : Own w B T sz cap n vs) {r : Option Nat} (hg : w.grownBy w' r) (hne : some B ≠ r) : Own w' B T sz cap n vs := World.ownsRow.kept h hg (Or.inr hne)
theorem Own.gn {r : Nat} (h : Own w B T sz cap n vs) (hg : w.grownBy w' (some r)) (hne : B ≠ r := by omega) : Own w' B T sz cap n vs := h.grown hg (Jj hne)
theorem Own.grown0 (h : Own w B T sz cap n vs) (hg : w.grownBy w' none) : Own w' B T sz cap n vs := h.grown hg (by simp)
theorem Own.sl {α : Type} {g : α → List Value} (hg : Wide g sz) {ys : List α} (h : Own w B T sz cap n (ys.flatMap g)) : SlAt w (some ⟨B, 0, none⟩) sz (ys.map g) := fun k x hk => by
  rw [List.getElem?_map] at hk
  cases hy : ys[k]? with
  | none => rw [hy] at hk; simp at hk
  | some y =>
    rw [hy] at hk
    obtain rfl : g y = x := by simpa using hk
    refine ⟨B, 0, rfl, fun j v hj => ?_⟩
    have := World.ownsRow.cells h rfl (k * sz + j) v (Wo hg hy hj)
    have e : (⟨B, 0 + k * sz + j, none⟩ : Addr) = (⟨B, 0, none⟩ : Addr).add (k * sz + j) := by
      simp only [Addr.add]
      split
      · rename_i he; rw [show 0 + k * sz + j = 0 by omega]
      · rw [Nat.add_assoc]
    rw [e]
    exact this
theorem Own.range {α : Type} {g : α → List Value} (hg : Wide g sz) {ys : List α} (h : Own w B T sz cap n (ys.flatMap g)) {k : Nat} {x : α} (hk : ys[k]? = some x) : w.rangeAt B (k * sz) (g x) := by
  obtain ⟨b, o, ha, hr⟩ := Own.sl hg h k _ (Yp hk)
  simp only [Option.some.injEq, Addr.mk.injEq] at ha
  obtain ⟨rfl, rfl, _⟩ := ha
  rwa [Nat.zero_add] at hr
theorem Own.of {cs : Array Value} (h : Blk w B T cs) (hs : cs.size = n * sz) (hm : n ≤ 9223372036854775807) : Own w B T sz n n cs.toList := by
  refine ⟨by simpa using hs, Or.inr ⟨B, n, cs, rfl, Nat.zero_le _, h, Nat.le_refl _, ?_, hs, ?_⟩⟩
  · have : maxLen = 9223372036854775807 := by decide
    omega
  · rw [← hs, ← Array.length_toList, List.take_length]
theorem Own.rows {α : Type} {g : α → List Value} (hg : Wide g sz) {ys : List α} (h : Blk w B T (ys.flatMap g).toArray) (hm : ys.length ≤ 9223372036854775807) : Own w B T sz ys.length ys.length (ys.flatMap g) := by
  have := Own.of (n := ys.length) (sz := sz) h (by rw [List.size_toArray, J1 hg]) hm
  simpa using this
end
theorem Tj {α : Type} {g : α → List Value} {sz : Nat} (hg : Wide g sz) (h0 : 0 < sz) {w : World} {a : Addr} {zs : List α} (hs : SlAt w (some a) sz (zs.map g)) : ∀ j u, (zs.flatMap g)[j]? = some u → w.cell? (a.add j) = some u := fun j u hj => by
  have hlt : j < zs.length * sz := by rw [← J1 hg zs]; exact (List.getElem?_eq_some_iff.1 hj).1
  obtain ⟨q, hq2⟩ := Ja ((Nat.div_lt_iff_lt_mul h0).2 hlt)
  obtain ⟨b, o, ha, hr⟩ := hs _ _ (Yp hq2)
  obtain rfl := Option.some.inj ha
  have hm2 : j % sz < sz := Nat.mod_lt _ h0
  have hd2 : (j / sz) * sz + j % sz = j := by rw [Nat.mul_comm]; exact Nat.div_add_mod j sz
  have h3 := Wo hg hq2 (j := j % sz) (List.getElem?_eq_getElem (by rw [hg q]; exact hm2))
  rw [hd2, hj] at h3
  have h4 := hr (j % sz) u (by rw [List.getElem?_eq_getElem (by rw [hg q]; exact hm2)]; exact h3.symm)
  have e3 : (⟨b, o, none⟩ : Addr).add j = ⟨b, o + (j / sz) * sz + j % sz, none⟩ := by
    simp only [Addr.add]
    split
    · rename_i he; rw [show o + (j / sz) * sz + j % sz = o by omega]
    · rw [show o + j = o + (j / sz) * sz + j % sz by omega]
  rw [e3]
  exact h4
section
variable {P : Program} {n : Nat} {ops : Array Oper} {K : Fr → World → Prop} {l : List Oper} {f : Fr} {w : World} {ty : TypeId} {pos : String} {aft : Array Edge} {d : Nat}
theorem V9 {α : Type} {g : α → List Value} {t e sz bytes cap c : Nat} {z : Value} {x y : Operand} {B : Nat} {ys zs : List α} {a : Addr} (ht : mkTy P t = some (e, sz, bytes, some z)) (hz : z.cells.size = sz) (hg : Wide g sz) (h0 : 0 < sz) (h1c : ∀ q : α, ∀ u ∈ g q, u.oneCell' = true)
    (hx : ev f x = .slice (some ⟨B, 0, none⟩) ys.length cap) (hy : ev f y = .slice (some a) zs.length c) (ho : Own w B e sz cap ys.length (ys.flatMap g)) (hs : SlAt w (some a) sz (zs.map g))
    (hm : ys.length + zs.length ≤ 1099511627776) (hb : bytes ≤ 128) (hd : Nat.blt d n = true)
    (h : ∀ B' cap' w', Own w' B' e sz cap' (ys ++ zs).length ((ys ++ zs).flatMap g) → w.grownBy w' (some B) → (B' = B ∨ B' = w.heap.size) → WpO P n ops K l (up f d (.slice (some ⟨B', 0, none⟩) (ys ++ zs).length cap')) w') :
    WpO P n ops K (⟨some d, .call ⟨.builtin .append, #[x, y], #[t, t]⟩, ty, pos, aft, none⟩ :: l) f w := by
  unfold mkTy at ht
  split at ht
  · rename_i el hu
    cases hq : P.info? el with
    | none => rw [hq] at ht; cases ht
    | some i =>
      rw [hq] at ht
      simp only [Option.map_some, Option.some.injEq, Prod.mk.injEq] at ht
      obtain ⟨rfl, rfl, rfl, hzz⟩ := ht
      have hmx : maxLen = 9223372036854775807 := by decide
      have hnews := Tj hg h0 hs
      obtain ⟨v', w', hr, ho', hgr, hnil, hob⟩ := run_append_own_at (P := P) w 0 t ty el i z i.size i.bytes hu hq hzz rfl rfl hz h0 _ _ _ ho a zs.length c (zs.flatMap g) (J1 hg zs) hnews
        (fun u hu => by obtain ⟨q, _, hq⟩ := List.mem_flatMap.1 hu; exact h1c q u hq) (by omega) (by
          have : (ys.length + zs.length) * i.bytes ≤ 1099511627776 * 128 := Nat.mul_le_mul hm hb
          omega) (Nat.zero_le _)
      have hv' : v' ≠ .slice none 0 0 := fun e => by
        have := (hnil.1 e).1
        cases this
      rcases ho'.2 with ⟨hn, _⟩ | ⟨B', cap', cur, rfl, hrest⟩
      · exact absurd hn hv'
      · have e1 : (ys ++ zs).length = ys.length + zs.length := List.length_append
        have e2 : (ys ++ zs).flatMap g = ys.flatMap g ++ zs.flatMap g := List.flatMap_append
        refine Jc rfl hd (v := .slice (some ⟨B', 0, none⟩) (ys ++ zs).length cap') (w' := w') (by simp [execOp, resolve, invoke, builtin, hx, hy, hr, e1]) (h B' cap' w' ?_ hgr ?_)
        · unfold Own; rw [e1, e2]; exact ho'
        · rcases hob with h' | h'
          · exact Or.inl (Option.some.inj h')
          · exact Or.inr (Option.some.inj h')
  · cases ht
end
def OwnN (lo : Nat) (w : World) (a : Option Addr) (T : TypeId) (sz cap n : Nat) (vs : List Value) : Prop := w.ownsRow lo T sz (.slice a n cap) n vs
section
variable {lo : Nat} {w w' : World} {a : Option Addr} {T : TypeId} {sz cap n : Nat} {vs : List Value}
theorem OwnN.nil : OwnN lo w none T sz 0 0 [] := ⟨by simp, Or.inl ⟨rfl, rfl⟩⟩
theorem OwnN.isnil (h : OwnN lo w none T sz cap n vs) : cap = 0 ∧ n = 0 ∧ vs = [] := by
  rcases h.2 with ⟨h1, h2⟩ | ⟨g, cap', cur, h1, _⟩
  · simp only [Value.slice.injEq] at h1
    refine ⟨h1.2.2, h2, ?_⟩
    have := h.1
    rw [h2, Nat.zero_mul] at this
    exact List.eq_nil_of_length_eq_zero this
  · simp at h1
theorem OwnN.own {B : Nat} (h : OwnN lo w (some ⟨B, 0, none⟩) T sz cap n vs) : Own w B T sz cap n vs ∧ lo ≤ B := by
  rcases h.2 with ⟨h1, _⟩ | ⟨g, cap', cur, h1, h2, h3⟩
  · simp at h1
  · simp only [Value.slice.injEq, Option.some.injEq, Addr.mk.injEq, and_true, true_and] at h1
    obtain ⟨rfl, rfl⟩ := h1
    exact ⟨⟨h.1, Or.inr ⟨_, _, cur, rfl, Nat.zero_le _, h3⟩⟩, h2⟩
theorem OwnN.of {B : Nat} (h : Own w B T sz cap n vs) (hl : lo ≤ B) : OwnN lo w (some ⟨B, 0, none⟩) T sz cap n vs := by
  rcases h.2 with ⟨h1, _⟩ | ⟨g, cap', cur, h1, h2, h3⟩
  · simp at h1
  · simp only [Value.slice.injEq, Option.some.injEq, Addr.mk.injEq, and_true, true_and] at h1
    obtain ⟨rfl, rfl⟩ := h1
    exact ⟨h.1, Or.inr ⟨_, _, cur, rfl, hl, h3⟩⟩
theorem OwnN.form (h : OwnN lo w a T sz cap n vs) : (a = .none ∧ n = 0 ∧ cap = 0 ∧ vs = []) ∨ ∃ B, a = some ⟨B, 0, .none⟩ ∧ lo ≤ B ∧ B < w.heap.size ∧ Own w B T sz cap n vs := by
  rcases h.2 with ⟨h1, h2⟩ | ⟨g, cap', cur, h1, h2, h3⟩
  · simp only [Value.slice.injEq] at h1
    obtain ⟨rfl, h4, h5⟩ := h1
    exact Or.inl ⟨rfl, h2, h5, (OwnN.isnil h).2.2⟩
  · simp only [Value.slice.injEq, true_and] at h1
    obtain ⟨rfl, rfl⟩ := h1
    have ho := OwnN.own h
    exact Or.inr ⟨g, rfl, h2, ho.1.lt, ho.1⟩
theorem OwnN.some_ (h : OwnN lo w a T sz cap n vs) (hn : 0 < n) : ∃ B, a = some ⟨B, 0, .none⟩ ∧ lo ≤ B ∧ Own w B T sz cap n vs := by
  rcases h.form with ⟨_, h2, _⟩ | ⟨B, h1, h2, _, h3⟩
  · omega
  · exact ⟨B, h1, h2, h3⟩
theorem OwnN.grown {r : Option Nat} (h : OwnN lo w a T sz cap n vs) (hg : w.grownBy w' r) (hne : ∀ B, a = some ⟨B, 0, .none⟩ → some B ≠ r) : OwnN lo w' a T sz cap n vs := by
  rcases h.form with ⟨rfl, rfl, rfl, rfl⟩ | ⟨B, rfl, h2, _, h3⟩
  · exact OwnN.nil
  · exact OwnN.of (h3.grown hg (hne B rfl)) h2
theorem OwnN.grown0 (h : OwnN lo w a T sz cap n vs) (hg : w.grownBy w' .none) : OwnN lo w' a T sz cap n vs := h.grown hg (by simp)
theorem OwnN.grown_lt {b : Nat} (h : OwnN lo w a T sz cap n vs) (hg : w.grownBy w' (some b)) (hb : b < lo) : OwnN lo w' a T sz cap n vs := by
  rcases h.form with ⟨rfl, rfl, rfl, rfl⟩ | ⟨B, rfl, h2, _, h3⟩
  · exact OwnN.nil
  · exact OwnN.of (h3.grown hg (Jj (by omega))) h2
theorem OwnN.mono {lo' : Nat} (h : OwnN lo w a T sz cap n vs) (hl : lo' ≤ lo) : OwnN lo' w a T sz cap n vs := by
  rcases h.form with ⟨rfl, rfl, rfl, rfl⟩ | ⟨B, rfl, h2, _, h3⟩
  · exact OwnN.nil
  · exact OwnN.of h3 (Nat.le_trans hl h2)
theorem OwnN.sl {α : Type} {g : α → List Value} (hg : Wide g sz) (h0 : 0 < sz) {ys : List α} (h : OwnN lo w a T sz cap n (ys.flatMap g)) : SlAt w a sz (ys.map g) := by
  rcases h.form with ⟨rfl, rfl, rfl, hn⟩ | ⟨B, rfl, h2, _, h3⟩
  · have hl := J1 hg ys
    rw [hn] at hl
    have : ys.length = 0 := by
      rcases Nat.eq_zero_or_pos ys.length with h5 | h5
      · exact h5
      · have h6 := Nat.mul_pos h5 h0
        simp at hl
        omega
    rw [List.eq_nil_of_length_eq_zero this]
    exact fun k x hk => by simp at hk
  · exact Own.sl hg h3
theorem OwnN.cap0 (h : OwnN lo w a T sz cap n vs) (ha : a = .none) : cap = 0 := by
  subst ha
  exact h.isnil.1
end
section
variable {P : Program} {n : Nat} {ops : Array Oper} {K : Fr → World → Prop} {l : List Oper} {f : Fr} {w : World} {ty : TypeId} {pos : String} {aft : Array Edge} {d : Nat}
theorem Jg {α : Type} {g : α → List Value} {lo t e sz bytes cap c : Nat} {z : Value} {x y : Operand} {ax ay : Option Addr} {ys zs : List α} (ht : mkTy P t = some (e, sz, bytes, some z)) (hz : z.cells.size = sz) (hg : Wide g sz) (h0 : 0 < sz) (h1c : ∀ q : α, ∀ u ∈ g q, u.oneCell' = true)
    (hx : ev f x = .slice ax ys.length cap) (hy : ev f y = .slice ay zs.length c) (ho : OwnN lo w ax e sz cap ys.length (ys.flatMap g)) (hs : SlAt w ay sz (zs.map g)) (hc : ay = none → c = 0)
    (hm : ys.length + zs.length ≤ 1099511627776) (hb : bytes ≤ 128) (hlo : lo ≤ w.heap.size) (hd : Nat.blt d n = true)
    (h : ∀ a' cap' w', OwnN lo w' a' e sz cap' (ys ++ zs).length ((ys ++ zs).flatMap g) → w.grownBy w' (ax.map (·.block)) → (a'.map (·.block) = ax.map (·.block) ∨ a'.map (·.block) = some w.heap.size) → WpO P n ops K l (up f d (.slice a' (ys ++ zs).length cap')) w') :
    WpO P n ops K (⟨some d, .call ⟨.builtin .append, #[x, y], #[t, t]⟩, ty, pos, aft, none⟩ :: l) f w := by
  unfold mkTy at ht
  split at ht
  · rename_i el hu
    cases hq : P.info? el with
    | none => rw [hq] at ht; cases ht
    | some i =>
      rw [hq] at ht
      simp only [Option.map_some, Option.some.injEq, Prod.mk.injEq] at ht
      obtain ⟨rfl, rfl, rfl, hzz⟩ := ht
      have hmx : maxLen = 9223372036854775807 := by decide
      have e1 : (ys ++ zs).length = ys.length + zs.length := List.length_append
      have e2 : (ys ++ zs).flatMap g = ys.flatMap g ++ zs.flatMap g := List.flatMap_append
      have hob0 : ∀ (aa : Option Addr) m c, (Value.slice aa m c).ownBlock = aa.map (·.block) := fun aa m c => by cases aa <;> rfl
      cases ay with
      | none =>
        have hzs : zs = [] := by
          cases zs with
          | nil => rfl
          | cons q zs =>
            obtain ⟨b, o, ha, _⟩ := hs 0 (g q) rfl
            cases ha
        subst hzs
        have hr := run_append_owned_none (P := P) w lo t ty el i i.size hu hq _ _ _ ho
        refine Jc rfl hd (v := .slice ax ys.length cap) (w' := w) (by simp [execOp, resolve, invoke, builtin, hx, hy, hc rfl, hr]) ?_
        have h9 := h ax cap w
        rw [List.append_nil] at h9
        exact h9 ho (World.grownBy.refl _ _) (Or.inl rfl)
      | some a =>
        obtain ⟨v', w', hr, ho', hgr, hnil, hob⟩ := run_append_own_at (P := P) w lo t ty el i z i.size i.bytes hu hq hzz rfl rfl hz h0 _ _ _ ho a zs.length c (zs.flatMap g) (J1 hg zs) (Tj hg h0 hs)
          (fun u hu => by obtain ⟨q, _, hq⟩ := List.mem_flatMap.1 hu; exact h1c q u hq) (by omega) (by
            have : (ys.length + zs.length) * i.bytes ≤ 1099511627776 * 128 := Nat.mul_le_mul hm hb
            omega) hlo
        have hshape : ∃ a' cap', v' = .slice a' (ys ++ zs).length cap' := by
          rcases ho'.2 with ⟨h1, h2⟩ | ⟨g', cp, cu, h1, _⟩
          · exact ⟨none, 0, by rw [h1, e1, h2]⟩
          · exact ⟨_, cp, by rw [h1, e1]⟩
        obtain ⟨a', cap', rfl⟩ := hshape
        refine Jc rfl hd (v := .slice a' (ys ++ zs).length cap') (w' := w') (by simp [execOp, resolve, invoke, builtin, hx, hy, hr]) (h a' cap' w' ?_ ?_ ?_)
        · unfold OwnN; rw [e2]; rw [← e1] at ho'; exact ho'
        · rw [hob0] at hgr; exact hgr
        · rw [hob0, hob0] at hob; exact hob
  · cases ht
end
theorem Own.blk {w : World} {B : Nat} {T : TypeId} {sz cap n : Nat} {vs : List Value} (h : Own w B T sz cap n vs) : vs.length = n * sz ∧ ∃ cur : Array Value, Blk w B T cur ∧ n ≤ cap ∧ cap ≤ maxLen ∧ cur.size = cap * sz ∧ cur.toList.take (n * sz) = vs := by
  refine ⟨h.1, ?_⟩
  rcases h.2 with ⟨h1, _⟩ | ⟨g, cap', cur, h1, _, h3, h4⟩
  · simp at h1
  · simp only [Value.slice.injEq, Option.some.injEq, Addr.mk.injEq, and_true, true_and] at h1
    obtain ⟨rfl, rfl⟩ := h1
    exact ⟨cur, h3, h4⟩
theorem Own.ofBlk {w : World} {B : Nat} {T : TypeId} {sz cap n : Nat} {vs : List Value} {cur : Array Value} (hl : vs.length = n * sz) (hb : Blk w B T cur) (h1 : n ≤ cap) (h2 : cap ≤ maxLen) (h3 : cur.size = cap * sz) (h4 : cur.toList.take (n * sz) = vs) : Own w B T sz cap n vs :=
  ⟨hl, Or.inr ⟨B, cap, cur, rfl, Nat.zero_le _, hb, h1, h2, h3, h4⟩⟩
theorem R2 {cur vs : List Value} {o m : Nat} {us : List Value} (h : cur.take m = vs) (hm : m ≤ cur.length) (ho : o + us.length ≤ m) : (cur.take o ++ us ++ cur.drop (o + us.length)).take m = vs.take o ++ us ++ vs.drop (o + us.length) := by
  subst h
  have e1 : (cur.take o).length = o := by rw [List.length_take]; omega
  have e2 : (cur.take m).take o = cur.take o := by rw [List.take_take, Nat.min_eq_left (by omega)]
  have e3 : (cur.take m).drop (o + us.length) = (cur.drop (o + us.length)).take (m - (o + us.length)) := List.drop_take ..
  rw [e2, e3, List.take_append, List.take_of_length_le (l := cur.take o ++ us) (by rw [List.length_append, e1]; exact ho), List.length_append, e1]
section
variable {P : Program} {n : Nat} {ops : Array Oper} {K : Fr → World → Prop} {l : List Oper} {f : Fr} {w : World} {ty : TypeId} {pos : String} {aft : Array Edge} {d : Nat}
theorem Q7 {α : Type} {g : α → List Value} {t b o sz cap k j : Nat} {T : TypeId} {x y : Operand} {v : Value} {ys : List α} {z z' : α} (ht : oneTy P t = true) (hx : ev f x = .pointer (some ⟨b, o, none⟩)) (hy : ev f y = v) (h1 : v.oneCell' = true)
    (hg : Wide g sz) (ho : Own w b T sz cap ys.length (ys.flatMap g)) (hk : ys[k]? = some z) (hj : j < sz) (e : o = k * sz + j) (hv : (g z).set j v = g z')
    (h : ∀ w', Own w' b T sz cap (ys.set k z').length ((ys.set k z').flatMap g) → w.grownBy w' (some b) → WpO P n ops K l f w') : WpO P n ops K (⟨none, .store t x y, ty, pos, aft, none⟩ :: l) f w := by
  obtain ⟨hl, cur, hb, h2, h3, h4, h5⟩ := ho.blk
  have hlt : k * sz + j < ys.length * sz := by
    have := Iz hg hk hj
    rwa [List.size_toArray, J1 hg] at this
  have hcap : ys.length * sz ≤ cap * sz := Nat.mul_le_mul_right _ h2
  subst e
  have hin : k * sz + j < cur.size := by rw [h4]; exact Nat.lt_of_lt_of_le hlt hcap
  refine Wv (w' := w.setRow b (cur.setIfInBounds (k * sz + j) v)) rfl rfl (by simp [execOp, hx, hy, Gc ht h1 hb hin]) (h _ (Own.ofBlk ?_ (setB_setRow hb _).blk (by rw [List.length_set]; exact h2) h3 (by rw [Array.size_setIfInBounds]; exact h4) ?_) (setB_setRow hb _).grw)
  · rw [J1 hg]
  · have hset := congrArg Array.toList (Md hg hk z' hj hv)
    rw [List.length_set, Array.toList_setIfInBounds, List.take_set, h5]
    simpa using hset
theorem Qy {α : Type} {g : α → List Value} {t b o sz cap k : Nat} {T : TypeId} {x y : Operand} {ys : List α} {z' : α} (ht : rowTy P t = some sz) (hx : ev f x = .pointer (some ⟨b, o, none⟩)) (hy : ev f y = .agg (g z').toArray) (h1 : ∀ v ∈ g z', v.oneCell' = true)
    (hg : Wide g sz) (ho : Own w b T sz cap ys.length (ys.flatMap g)) (hk : k < ys.length) (e : o = k * sz)
    (h : ∀ w', Own w' b T sz cap (ys.set k z').length ((ys.set k z').flatMap g) → w.grownBy w' (some b) → WpO P n ops K l f w') : WpO P n ops K (⟨none, .store t x y, ty, pos, aft, none⟩ :: l) f w := by
  obtain ⟨hl, cur, hb, h2, h3, h4, h5⟩ := ho.blk
  have hlt : k * sz + sz ≤ ys.length * sz := by
    have := Tk hg hk
    rwa [List.size_toArray, J1 hg] at this
  have hcap : ys.length * sz ≤ cap * sz := Nat.mul_le_mul_right _ h2
  subst e
  have hin : k * sz + sz ≤ cur.size := by rw [h4]; exact Nat.le_trans hlt hcap
  have hsz : cur.toList.length = cap * sz := by rw [Array.length_toList]; exact h4
  have hz : (g z').length = sz := hg z'
  refine Wv (w' := w.setRow b (cur.toList.take (k * sz) ++ g z' ++ cur.toList.drop (k * sz + sz)).toArray) rfl rfl (by simp only [execOp, hx, hy, Sem.run_bind, Gd ht (hg z') h1 hb hin, Result.andThen_ok]; rfl) (h _ (Own.ofBlk ?_ (setB_setRow hb _).blk (by rw [List.length_set]; exact h2) h3 ?_ ?_) (setB_setRow hb _).grw)
  · rw [J1 hg]
  · rw [List.size_toArray, List.length_append, List.length_append, List.length_take, List.length_drop, hz, hsz, Nat.min_eq_left (by omega)]
    omega
  · have hset := congrArg Array.toList (Nl hg hk z')
    have hq := R2 (cur := cur.toList) (us := g z') (o := k * sz) h5 (by rw [hsz]; exact hcap) (by rw [hz]; exact hlt)
    rw [hz] at hq
    rw [List.length_set, hq]
    simpa using hset
end
theorem SlAt.nil {w : World} {a : Option Addr} {sz : Nat} : SlAt w a sz [] := fun k x hk => by simp at hk
def ThAt (w : World) (m : MTh) : Prop := SlAt w m.sa 5 (m.t.slots.map Rt.cells) ∧ SlAt w m.qa 1 (m.t.queue.map icell) ∧ (m.sa = none → m.sc = 0) ∧ (m.qa = none → m.qc = 0)
theorem ThAt.low {w w' : World} {m : MTh} (h : ThAt w m) (hg : w.grownBy w' none) : ThAt w' m := ⟨h.1.low hg, h.2.1.low hg, h.2.2⟩
def TabAt (w : World) (a : Option Addr) (ts : List MTh) : Prop := SlAt w a 8 (ts.map MTh.cells) ∧ ∀ m ∈ ts, ThAt w m
theorem TabAt.low {w w' : World} {a : Option Addr} {ts : List MTh} (h : TabAt w a ts) (hg : w.grownBy w' none) : TabAt w' a ts := ⟨h.1.low hg, fun m hm => (h.2 m hm).low hg⟩
theorem TabAt.th {w : World} {a : Option Addr} {ts : List MTh} (h : TabAt w a ts) {k : Nat} {m : MTh} (hk : ts[k]? = some m) : ThAt w m := h.2 m (List.mem_of_getElem? hk)
def arrTy (P : Program) (t : TypeId) : Option (Nat × TypeId × Nat) :=
  match P.underlying t with
  | some (.array m e) => (P.info? e).map fun i => (m, e, i.size)
  | _ => none
theorem Uw {P : Program} {t e m sz : Nat} (h : arrTy P t = some (m, e, sz)) : P.underlying t = some (.array m e) ∧ ∃ i, P.info? e = some i ∧ i.size = sz := by
  unfold arrTy at h
  split at h
  · rename_i m' e' hu
    cases hq : P.info? e' with
    | none => rw [hq] at h; cases h
    | some i =>
      rw [hq] at h
      simp only [Option.map_some, Option.some.injEq, Prod.mk.injEq] at h
      obtain ⟨rfl, rfl, rfl⟩ := h
      exact ⟨hu, i, hq, rfl⟩
  · cases h
theorem I0 {α : Type} {g : α → List Value} {sz : Nat} (hg : Wide g sz) {ys : List α} {k : Nat} {z : α} (hk : ys[k]? = some z) : (ys.flatMap g).toArray.extract (k * sz) (k * sz + sz) = (g z).toArray := by
  apply Array.ext'
  rw [Array.toList_extract, List.extract_eq_take_drop, List.toList_toArray, List.toList_toArray, W2 hg, U1 hk, List.flatMap_cons, Nat.add_sub_cancel_left, List.take_append, hg z, List.take_of_length_le (by rw [hg z]; exact Nat.le_refl _)]
  simp
theorem SlAt.all {α : Type} {g : α → List Value} {w : World} {a : Option Addr} {sz : Nat} (hg : Wide g sz) (h0 : 0 < sz) {ys : List α} (h : SlAt w a sz (ys.map g)) (hne : 0 < ys.length) : ∃ b q, a = some ⟨b, q, none⟩ ∧ w.rangeAt b q (ys.flatMap g) := by
  obtain ⟨y, hy⟩ := Ja hne
  obtain ⟨b, q, ha, _⟩ := h _ _ (Yp hy)
  refine ⟨b, q, ha, fun j v hj => ?_⟩
  have hlt : j < ys.length * sz := by rw [← J1 hg ys]; exact (List.getElem?_eq_some_iff.1 hj).1
  obtain ⟨z, hz⟩ := Ja ((Nat.div_lt_iff_lt_mul h0).2 hlt)
  obtain ⟨b', q', ha', hr⟩ := h _ _ (Yp hz)
  rw [ha] at ha'
  simp only [Option.some.injEq, Addr.mk.injEq] at ha'
  obtain ⟨rfl, rfl, _⟩ := ha'
  have hm : j % sz < sz := Nat.mod_lt _ h0
  have hd : (j / sz) * sz + j % sz = j := by rw [Nat.mul_comm]; exact Nat.div_add_mod j sz
  have h3 := Wo hg hz (j := j % sz) (List.getElem?_eq_getElem (by rw [hg z]; exact hm))
  rw [hd, hj] at h3
  have h4 := hr (j % sz) v (by rw [List.getElem?_eq_getElem (by rw [hg z]; exact hm)]; exact h3.symm)
  rwa [Nat.add_assoc, hd] at h4
section
variable {P : Program} {n : Nat} {ops : Array Oper} {K : Fr → World → Prop} {l : List Oper} {f : Fr} {w : World} {ty : TypeId} {pos : String} {aft : Array Edge} {d : Nat}
theorem Zw {t e m sz len cap b q : Nat} {a : Option Addr} {x : Operand} (ht : arrTy P t = some (m, e, sz)) (hx : ev f x = .slice a len cap) (ha : a = some ⟨b, q, none⟩) (hm : m ≤ len) (hd : Nat.blt d n = true)
    (h : WpO P n ops K l (up f d (.pointer (some ⟨b, q, none⟩))) w) : WpO P n ops K (⟨some d, .sliceToArrayPointer t x, ty, pos, aft, none⟩ :: l) f w := by
  have hu := (Uw ht).1
  refine Jc rfl hd ?_ h
  simp only [execOp, hx, Instr.arrayAt, Sem.run_bind, run_underlying hu, Result.andThen_ok, if_neg (Nat.not_lt.2 hm), ha]
  rfl
theorem Ps {t e m sz b o : Nat} {x : Operand} (ht : arrTy P t = some (m, e, sz)) (hx : ev f x = .pointer (some ⟨b, o, none⟩)) (hm : 0 < m) (hd : Nat.blt d n = true)
    (h : WpO P n ops K l (up f d (.slice (some ⟨b, o, none⟩) m m)) w) : WpO P n ops K (⟨some d, .slice t x none none none, ty, pos, aft, none⟩ :: l) f w := by
  obtain ⟨hu, i, hi, hs⟩ := Uw ht
  have hz : (sizeOf e).run P w = .ok i.size w := by simp [sizeOf, typeInfo, hi]
  have hb : (Instr.sliceBounds false m m none none none).run P w = .ok (0, m, m) w := rfl
  refine Jc rfl hd ?_ h
  have hne : ¬ m = 0 := by omega
  simp [execOp, hx, Instr.sliceAt, Instr.sureAddr, run_underlying hu, hb, hz, Addr.add, hne]
theorem Pp {α : Type} {g : α → List Value} {ys : List α} {z : α} {t e m sz : Nat} {k : IntKind} {i : Int} {x y : Operand} (ht : arrTy P t = some (m, e, sz)) (hr : rowTy P e = some sz) (hg : Wide g sz) (hx : ev f x = .agg (ys.flatMap g).toArray) (hy : ev f y = .int k i)
    (h0 : 0 ≤ i) (h1 : i < m) (hk : ys[i.toNat]? = some z) (hd : Nat.blt d n = true) (h : WpO P n ops K l (up f d (.agg (g z).toArray)) w) : WpO P n ops K (⟨some d, .index t x y, ty, pos, aft, none⟩ :: l) f w := by
  obtain ⟨hu, inf, hi, hs⟩ := Uw ht
  obtain ⟨dd, hue, hrow, _⟩ := U5 hr
  have hz : (sizeOf e).run P w = .ok sz w := by simp [sizeOf, typeInfo, hi, hs]
  have hagg : (isAgg e).run P w = .ok true w := by
    unfold isAgg
    cases dd <;> first | (cases hrow; done) | simp [run_underlying hue]
  have hpart : (part e (ys.flatMap g).toArray (i.toNat * sz)).run P w = .ok (.agg (g z).toArray) w := by
    simp only [part, Sem.run_bind, hagg, Result.andThen_ok, if_true, hz]
    rw [I0 hg hk]
    rfl
  refine Jc rfl hd ?_ h
  simp [execOp, hx, hy, Instr.index, asIntOf, run_underlying hu, hz, h0, h1, hpart]
end
end Go.Dw
end
section
namespace Go.Proofs.YtlhhijnmacogcaaGreatDoor
open Go.RowKit Go.Dw
set_option maxRecDepth 100000
set_option maxHeartbeats 4000000
set_option linter.unusedSimpArgs false
set_option linter.unusedVariables false
theorem Yo : fieldOff Tryz.prog 33 0 = some 0 := by kernel_rfl
theorem Kv : fieldOff Tryz.prog 33 1 = some 1 := by kernel_rfl
theorem Vd : fieldOff Tryz.prog 33 3 = some 3 := by kernel_rfl
theorem Ve : fieldOff Tryz.prog 33 4 = some 4 := by kernel_rfl
theorem U3 : fieldOff Tryz.prog 35 0 = some 0 := by kernel_rfl
theorem Wy : fieldOff Tryz.prog 35 1 = some 1 := by kernel_rfl
theorem F2 : goFn Tryz.prog 100 = true := by kernel_rfl
theorem Ic : goFn Tryz.prog 73 = true := by kernel_rfl
theorem Xap : goFn Tryz.prog 99 = true := by kernel_rfl
theorem X1 : oneTy Tryz.prog 3 = true := by kernel_rfl
theorem Jw : oneTy Tryz.prog 4 = true := by kernel_rfl
theorem Y0 : rowTy Tryz.prog 33 = some 5 := by kernel_rfl
theorem J6 : rowTy Tryz.prog 35 = some 2 := by kernel_rfl
theorem Yz : Tryz.prog.follows .mixedOrders = true := by kernel_rfl
theorem M5 (x y : Operand) (a b : Rt) (w : World) : (eqGuard .eql 33 x y (.agg a.cells.toArray) (.agg b.cells.toArray)).run Tryz.prog w = .ok () w := by kernel_rfl
theorem Sg (a b : Rt) (w : World) : (binOp .eql 33 (.agg a.cells.toArray) (.agg b.cells.toArray)).run Tryz.prog w = .ok (vb (decide (a = b))) w := by
 have h := run_equalIn_struct (P := Tryz.prog) w 9999 33 a.cells.toArray b.cells.toArray (by kernel_rfl) (by kernel_rfl)
 obtain ⟨a0, a1, a2, a3, a4⟩ := a
 obtain ⟨b0, b1, b2, b3, b4⟩ := b
 simp only [binOp, Op.equal, Op.maxDepth, Sem.run_bind, Rt.cells] at h ⊢
 rw [h]
 simp [go_sem]
 (repeat' split) <;> simp_all
theorem Xbp (x y : Operand) (a b : Rt) (w : World) : (eqGuard .neq 33 x y (.agg a.cells.toArray) (.agg b.cells.toArray)).run Tryz.prog w = .ok () w := by kernel_rfl
theorem Xbr (a b : Rt) (w : World) : (binOp .neq 33 (.agg a.cells.toArray) (.agg b.cells.toArray)).run Tryz.prog w = .ok (vb (!decide (a = b))) w := by
 have h := Sg a b w
 have h2 := run_equalIn_struct (P := Tryz.prog) w 9999 33 a.cells.toArray b.cells.toArray (by kernel_rfl) (by kernel_rfl)
 obtain ⟨a0, a1, a2, a3, a4⟩ := a
 obtain ⟨b0, b1, b2, b3, b4⟩ := b
 simp only [binOp, Op.equal, Op.maxDepth, Sem.run_bind, Rt.cells] at h h2 ⊢
 rw [h2] at h ⊢
 revert h
 simp [go_sem]
 (repeat' split) <;> simp_all
theorem Xbj (a b : Lab) (w : World) : (binOp .eql 35 (.agg a.cells.toArray) (.agg b.cells.toArray)).run Tryz.prog w = .ok (vb (decide (a = b))) w := by
 have h := run_equalIn_struct (P := Tryz.prog) w 9999 35 a.cells.toArray b.cells.toArray (by kernel_rfl) (by kernel_rfl)
 obtain ⟨a0, a1⟩ := a
 obtain ⟨b0, b1⟩ := b
 simp only [binOp, Op.equal, Op.maxDepth, Sem.run_bind, Lab.cells] at h ⊢
 rw [h]
 simp [go_sem]
 (repeat' split) <;> simp_all
theorem Xbq (x y : Operand) (a b : Lab) (w : World) : (eqGuard .neq 35 x y (.agg a.cells.toArray) (.agg b.cells.toArray)).run Tryz.prog w = .ok () w := by kernel_rfl
theorem Xbs (a b : Lab) (w : World) : (binOp .neq 35 (.agg a.cells.toArray) (.agg b.cells.toArray)).run Tryz.prog w = .ok (vb (!decide (a = b))) w := by
 have h := Xbj a b w
 have h2 := run_equalIn_struct (P := Tryz.prog) w 9999 35 a.cells.toArray b.cells.toArray (by kernel_rfl) (by kernel_rfl)
 obtain ⟨a0, a1⟩ := a
 obtain ⟨b0, b1⟩ := b
 simp only [binOp, Op.equal, Op.maxDepth, Sem.run_bind, Lab.cells] at h h2 ⊢
 rw [h2] at h ⊢
 revert h
 simp [go_sem]
 (repeat' split) <;> simp_all
theorem G2 (l : Lab) (w : World) : CallsR Tryz.prog 73 #[.agg #[vi l.s, vi l.v]] w (fun v w' => v = vb (labelOk l) ∧ w.grownBy w' none) := by
 refine Xx (n := 21) Tryz.func73 Z Tryz.ntmps73 Z ?_
 have ab := World.grownBy.refl w none
 refine Xa (Y7 (v := .agg #[vi l.s, vi l.v]) (cs := #[vi l.s, vi l.v]) Z Z Z ?_)
 intro ae ac O
 have ad := Yd O ab
 refine Xe (v := vb false) Z Z (Xb (Ya (fun f' w' => (f' 2 = vb ((((decide (0 ≤ l.s)) && (decide (l.s ≤ 3))) && (decide (0 ≤ l.v))) && (decide (l.v ≤ 3)))) ∧ ac = w') ?_ ?_))
 refine Xc (o' := 0) U3 Z Z Z (Xh (v := vi l.s) X1 Z (O.blk.cell Z) Z (V0 (q := decide (0 ≤ l.s)) Z Z Z Z (Xd (v := vb (decide (0 ≤ l.s))) Z Z ?_)))
 rcases Yg (decide (0 ≤ l.s)) with E | E
 have ag := of_decide_eq_true E
 refine Xg Z Z Z E (Xc (o' := 0) U3 Z Z Z (Xg Z Z Z E (Xh (v := vi l.s) X1 Z (O.blk.cell Z) Z (Xg Z Z Z E (Vj (q := decide (l.s ≤ 3)) Z Z Z Z (Xw (v := vb (decide (l.s ≤ 3))) Z E Z Z (Xd (v := vb (decide (l.s ≤ 3))) Z Z ?_)))))))
 rcases Yg (decide (l.s ≤ 3)) with G | G
 have ah := of_decide_eq_true G
 refine Xg Z Z Z G (Xc (o' := 1) Wy Z Z Z (Xg Z Z Z G (Xh (v := vi l.v) X1 Z (O.blk.cell Z) Z (Xg Z Z Z G (V0 (q := decide (0 ≤ l.v)) Z Z Z Z (Xw (v := vb (decide (0 ≤ l.v))) Z G Z Z (Xd (v := vb (decide (0 ≤ l.v))) Z Z ?_)))))))
 rcases Yg (decide (0 ≤ l.v)) with J | J
 have ai := of_decide_eq_true J
 exact Xg Z Z Z J (Xc (o' := 1) Wy Z Z Z (Xg Z Z Z J (Xh (v := vi l.v) X1 Z (O.blk.cell Z) Z (Xg Z Z Z J (Vj (q := decide (l.v ≤ 3)) Z Z Z Z (Xw (v := vb (decide (l.v ≤ 3))) Z J Z Z (Xe (v := vb (decide (l.v ≤ 3))) Z Z (Xb ⟨(cB (by simp [E, G, J])), Z⟩))))))))
 have aj := of_decide_eq_false J
 iterate 3 refine Xj rfl rfl rfl J rfl ?_
 exact Xp (v := vb false) Z J Z Z (Xe (v := vb false) Z Z (Xb ⟨(cB (by simp [E, G, J])), Z⟩))
 have ak := of_decide_eq_false G
 iterate 3 refine Xj rfl rfl rfl G rfl ?_
 refine Xp (v := vb false) Z G Z Z (Xd (v := vb false) Z Z ?_)
 iterate 3 refine Xj rfl rfl rfl rfl rfl ?_
 exact Xp (v := vb false) Z Z Z Z (Xe (v := vb false) Z Z (Xb ⟨(cB (by simp [E, G])), Z⟩))
 have al := of_decide_eq_false E
 iterate 3 refine Xj rfl rfl rfl E rfl ?_
 refine Xp (v := vb false) Z E Z Z (Xd (v := vb false) Z Z ?_)
 iterate 3 refine Xj rfl rfl rfl rfl rfl ?_
 refine Xp (v := vb false) Z Z Z Z (Xd (v := vb false) Z Z ?_)
 iterate 3 refine Xj rfl rfl rfl rfl rfl ?_
 exact Xp (v := vb false) Z Z Z Z (Xe (v := vb false) Z Z (Xb ⟨(cB (by simp [E])), Z⟩))
 rintro af am ⟨V, rfl⟩
 refine Xt (⟨vb ((((decide (0 ≤ l.s)) && (decide (l.s ≤ 3))) && (decide (0 ≤ l.v))) && (decide (l.v ≤ 3))), Yt Z V, ?_, (low0 ab O.grw)⟩)
 simp [labelOk, inR, Bool.and_assoc]
theorem Hj (l : Lab) (hl : labelOk l = true) (w : World) : CallsR Tryz.prog 99 #[.agg #[vi l.s, vi l.v]] w (fun v w' => v = .tuple #[.int .u64 l.s, .int .u64 l.v] ∧ w.grownBy w' none) := by
 refine Xx (n := 10) Tryz.func99 Z Tryz.ntmps99 Z ?_
 have ab := World.grownBy.refl w none
 obtain ⟨⟨hl1, hl2⟩, af, ag⟩ := (Vr l).1 hl
 refine Xa (Y7 (v := .agg #[vi l.s, vi l.v]) (cs := #[vi l.s, vi l.v]) Z Z Z ?_)
 intro G ac E
 have ad := Yd E ab
 refine Xe (v := .int .u64 0) Z Z (Xe (v := .int .u64 0) Z Z (Xb (Xq (Yy (m := 7) (vals := [(4, pt G 0), (5, vi l.s), (6, .int .u64 l.s), (7, pt G 1), (8, vi l.v), (9, .int .u64 l.v), (2, .int .u64 l.s)]) (fun w' => ac.grownBy w' none) Yz (by kernel_rfl) (X8 _) ?_ ?_))))
 exact yl Z (fun _ _ k => Xc (o' := 0) U3 Z Z Z k) (yl Z (fun _ J k => Xh (v := vi l.s) X1 Z ((E.blk.grown0 J).cell Z) Z k) (yl Z (fun _ _ k => Wu (P := Tryz.prog) (k' := .u64) Z (by kernel_rfl) (by kernel_rfl) (P5 (by omega) (by omega)) Z k) (yl Z (fun _ _ k => Xc (o' := 1) Wy Z Z Z k) (yl Z (fun _ O k => Xh (v := vi l.v) X1 Z ((E.blk.grown0 O).cell Z) Z k) (yl Z (fun _ _ k => Wu (P := Tryz.prog) (k' := .u64) Z (by kernel_rfl) (by kernel_rfl) (P5 (by omega) (by omega)) Z k) (yl Z (fun _ _ k => Xe (v := .int .u64 l.s) Z Z k) Y8))))))
 intro ae V
 refine Xe (v := .int .u64 l.v) Z Z (Xb (Xu (Xt (⟨.tuple #[.int .u64 l.s, .int .u64 l.v], Gv Z Z Z, ?_, (low0 (low0 ab E.grw) V)⟩))))
 rfl
theorem R3 (a b : Int) (w : World) : CallsR Tryz.prog 100 #[.int .u64 a, .int .u64 b] w (fun v w' => v = vb (decide (bits .andNot .u64 a b = 0)) ∧ w.grownBy w' none) := by
 refine Xx (n := 9) Tryz.func100 Z Tryz.ntmps100 Z (Xa (Xe (v := vb false) Z Z (Xb (Xa (Xd (v := .int .u64 a) Z Z (Xd (v := .int .u64 b) Z Z (Ko (u := .int .u64 a) (u' := .int .u64 b) (v := .int .u64 (bits .andNot .u64 a b)) Z Z (by rw [binOp_andNot, intBits_andNot]; rfl) (fun _ _ => eqGuard_at_int ..) Z (X6 (q := decide (bits .andNot .u64 a b = 0)) Z Z Z Z (Xe (v := vb (decide (bits .andNot .u64 a b = 0))) Z Z (Xb (Xt (⟨vb (decide (bits .andNot .u64 a b = 0)), Yt Z Z, ?_, (World.grownBy.refl w none)⟩))))))))))))
 rfl
theorem Hc (a b : Lab) (w : World) : CallsR Tryz.prog 64 #[.agg #[vi a.s, vi a.v], .agg #[vi b.s, vi b.v]] w (fun v w' => v = vb (labelFlow a b) ∧ w.grownBy w' none) := by
 refine Xx (n := 35) Tryz.func64 Z Tryz.ntmps64 Z ?_
 have ba := World.grownBy.refl w none
 refine Xa (Y7 (v := .agg #[vi a.s, vi a.v]) (cs := #[vi a.s, vi a.v]) Z Z Z ?_)
 intro aq bk O
 have bd := Yd O ba
 have ah := low0 ba O.grw
 refine Y7 (v := .agg #[vi b.s, vi b.v]) (cs := #[vi b.s, vi b.v]) Z Z Z ?_
 intro ar bb J
 have be := Yd J ah
 have al := Xo J (O.blk).lt
 refine Xe (v := vb false) Z Z (Xb (Xq (Ya (fun f' w' => (f' 2 = pt aq 0 ∧ f' 3 = pt ar 0 ∧ f' 4 = vb false ∧ f' 16 = vb ((!labelOk a) || (!labelOk b))) ∧ bb.grownBy w' none) ?_ ?_)))
 refine Xr (vs := [vi a.s, vi a.v]) J6 Z Z ((O.blk.grown0 J.grw).rangeL 0 2 Z) Z (Xn Ic (Xf Z Xm) Z (G2 a _) ?_)
 rintro _ bl ⟨rfl, ab⟩
 refine Yn (b' := !labelOk a) Z Z Z (Xd (v := vb (!labelOk a)) Z Z ?_)
 rcases Yg (!labelOk a) with E | E
 have a8 := Jr E
 iterate 3 refine Xj rfl rfl rfl E rfl ?_
 exact Xw (v := vb true) Z E Z Z (Xb ⟨⟨Z, Z, Z, (cB (by simp [E, a8]))⟩, ab⟩)
 have a9 := Q3 E
 refine Xg Z Z Z E (Xr (vs := [vi b.s, vi b.v]) J6 Z Z ((J.blk.grown0 ab).rangeL 0 2 Z) Z (Xg Z Z Z E (Xn Ic (Xf Z Xm) Z (G2 b _) ?_)))
 rintro _ bm ⟨rfl, am⟩
 exact Xg Z Z Z E (Yn (b' := !labelOk b) Z Z Z (Xp (v := vb (!labelOk b)) Z E Z Z (Xb ⟨⟨Z, Z, Z, (cB (by simp [E, a9]))⟩, (grown_trans ab am)⟩)))
 rintro bg bn ⟨⟨au, av, bf, aw⟩, ac⟩
 have ai := low0 (low0 ah J.grw) ac
 refine X0 aw (fun V => ?_) (fun V => ?_)
 refine Xa (Xe (v := vb false) Z Z (Xb (Xt (Yk (⟨vb false, Yt Z Z, ?_, ai⟩)))))
 exact cB (N3 V).symm
 have af := Kl V
 have ad := Q3 af
 have ag := Km V
 have ae := Q3 ag
 refine Xz (Xu (Xa (Xr (vs := [vi a.s, vi a.v]) J6 au Z (((O.blk.grown0 J.grw).grown0 ac).rangeL 0 2 Z) Z (Xn Xap (Xf Z Xm) Z (Hj a ad _) ?_))))
 rintro _ bp ⟨rfl, aj⟩
 refine Xd (v := .tuple #[.int .u64 a.s, .int .u64 a.v]) Z Z (Ye (v := .int .u64 a.s) Z Z Z (Ye (v := .int .u64 a.v) Z Z Z (Xe (v := .int .u64 a.s) Z Z (Xe (v := .int .u64 a.v) Z Z (Xb (Xa (Xr (vs := [vi b.s, vi b.v]) J6 av Z (((J.blk.grown0 ac).grown0 aj).rangeL 0 2 Z) Z (Xn Xap (Xf Z Xm) Z (Hj b ae _) ?_))))))))
 rintro _ bc ⟨rfl, an⟩
 refine Xd (v := .tuple #[.int .u64 b.s, .int .u64 b.v]) Z Z (Ye (v := .int .u64 b.s) Z Z Z (Ye (v := .int .u64 b.v) Z Z Z (Xe (v := .int .u64 b.s) Z Z (Xe (v := .int .u64 b.v) Z Z (Xb (Ya (fun f' w' => (f' 4 = vb ((decide (bits .andNot .u64 a.s b.s = 0)) && (decide (bits .andNot .u64 b.v a.v = 0)))) ∧ bc.grownBy w' none) ?_ ?_))))))
 refine Xd (v := .int .u64 a.s) Z Z (Xd (v := .int .u64 b.s) Z Z (Xn F2 (Xf Z (Xf Z Xm)) Z (R3 a.s b.s _) ?_))
 rintro _ bq ⟨rfl, ak⟩
 refine Xd (v := vb (decide (bits .andNot .u64 a.s b.s = 0))) Z Z ?_
 rcases Yg (decide (bits .andNot .u64 a.s b.s = 0)) with G | G
 have bi := of_decide_eq_true G
 refine Xg Z Z Z G (Xd (v := .int .u64 b.v) Z Z (Xg Z Z Z G (Xd (v := .int .u64 a.v) Z Z (Xg Z Z Z G (Xn F2 (Xf Z (Xf Z Xm)) Z (R3 b.v a.v _) ?_)))))
 rintro _ br ⟨rfl, ao⟩
 exact Xw (v := vb (decide (bits .andNot .u64 b.v a.v = 0))) Z G Z Z (Xe (v := vb (decide (bits .andNot .u64 b.v a.v = 0))) Z Z (Xb ⟨(cB (by simp [V, af, ad, ag, ae, G])), (grown_trans ak ao)⟩))
 have bj := of_decide_eq_false G
 iterate 3 refine Xj rfl rfl rfl G rfl ?_
 exact Xp (v := vb false) Z G Z Z (Xe (v := vb false) Z Z (Xb ⟨(cB (by simp [V, af, ad, ag, ae, G])), ak⟩))
 rintro bh bt ⟨az, ap⟩
 refine Xt (⟨vb ((decide (bits .andNot .u64 a.s b.s = 0)) && (decide (bits .andNot .u64 b.v a.v = 0))), Yt Z az, ?_, (low0 (low0 (low0 ai aj) an) ap)⟩)
 exact cB (Lx ad ae)
theorem Ww (r : Rt) (w : World) : CallsR Tryz.prog 41 #[.agg #[vi r.th, vi r.ve, vb r.rd, vb r.wr, vb r.wk]] w (fun v w' => v = vb (rightOk r) ∧ w.grownBy w' none) := by
 refine Xx (n := 33) Tryz.func41 Z Tryz.ntmps41 Z ?_
 have af := World.grownBy.refl w none
 refine Xa (Y7 (v := .agg #[vi r.th, vi r.ve, vb r.rd, vb r.wr, vb r.wk]) (cs := #[vi r.th, vi r.ve, vb r.rd, vb r.wr, vb r.wk]) Z Z Z ?_)
 intro ai ag V
 have ah := Yd V af
 have ad := low0 af V.grw
 refine Xe (v := vb false) Z Z (Xb (Xq (Xa (Xr (vs := [vi r.th, vi r.ve, vb r.rd, vb r.wr, vb r.wk]) Y0 Z Z (V.blk.rangeL 0 5 Z) Z (Yv (ps := []) (v := .agg #[vi 0, vi 0, vb false, vb false, vb false]) X5 (by kernel_rfl) Z (Hv (q := decide (r = Rt.zero)) Z Z (M5 _ _ r Rt.zero _) (Sg r Rt.zero _) Z Z (Xb (X0 Z (fun ab => ?_) (fun ab => ?_)))))))))
 have ak := of_decide_eq_true ab
 refine Xa (Xe (v := vb true) Z Z (Xb (Xt (Yk (⟨vb true, Yt Z Z, ?_, ad⟩)))))
 simp [rightOk, inR, Bool.and_assoc, ab]
 have al := of_decide_eq_false ab
 refine Xz (Xu (Ya (fun f' w' => (f' 2 = vb (((((decide (1 ≤ r.th)) && (decide (r.th ≤ 8))) && (decide (0 ≤ r.ve))) && (decide (r.ve ≤ 5))) && (!(r.wk && r.wr)))) ∧ ag = w') ?_ ?_))
 refine Xc (o' := 0) Yo Z Z Z (Xh (v := vi r.th) X1 Z (V.blk.cell Z) Z (V0 (q := decide (1 ≤ r.th)) Z Z Z Z (Xd (v := vb (decide (1 ≤ r.th))) Z Z ?_)))
 rcases Yg (decide (1 ≤ r.th)) with G | G
 have am := of_decide_eq_true G
 refine Xg Z Z Z G (Xc (o' := 0) Yo Z Z Z (Xg Z Z Z G (Xh (v := vi r.th) X1 Z (V.blk.cell Z) Z (Xg Z Z Z G (Vj (q := decide (r.th ≤ 8)) Z Z Z Z (Xw (v := vb (decide (r.th ≤ 8))) Z G Z Z (Xd (v := vb (decide (r.th ≤ 8))) Z Z ?_)))))))
 rcases Yg (decide (r.th ≤ 8)) with J | J
 have an := of_decide_eq_true J
 refine Xg Z Z Z J (Xc (o' := 1) Kv Z Z Z (Xg Z Z Z J (Xh (v := vi r.ve) X1 Z (V.blk.cell Z) Z (Xg Z Z Z J (V0 (q := decide (0 ≤ r.ve)) Z Z Z Z (Xw (v := vb (decide (0 ≤ r.ve))) Z J Z Z (Xd (v := vb (decide (0 ≤ r.ve))) Z Z ?_)))))))
 rcases Yg (decide (0 ≤ r.ve)) with O | O
 have ao := of_decide_eq_true O
 refine Xg Z Z Z O (Xc (o' := 1) Kv Z Z Z (Xg Z Z Z O (Xh (v := vi r.ve) X1 Z (V.blk.cell Z) Z (Xg Z Z Z O (Vj (q := decide (r.ve ≤ 5)) Z Z Z Z (Xw (v := vb (decide (r.ve ≤ 5))) Z O Z Z (Xd (v := vb (decide (r.ve ≤ 5))) Z Z ?_)))))))
 rcases Yg (decide (r.ve ≤ 5)) with E | E
 have ap := of_decide_eq_true E
 refine Xg Z Z Z E (Xc (o' := 4) Ve Z Z Z (Xg Z Z Z E (Xh (v := vb r.wk) Jw Z (V.blk.cell Z) Z (Xg Z Z Z E (Xd (v := vb r.wk) Z Z ?_)))))
 rcases Yg (r.wk) with ac | ac
 exact Xg Z Z Z ac (Xc (o' := 3) Vd Z Z Z (Xg Z Z Z ac (Xh (v := vb r.wr) Jw Z (V.blk.cell Z) Z (Xg Z Z Z E (Xw (v := vb r.wr) Z ac Z Z (Xg Z Z Z E (Yn (b' := !r.wr) Z Z Z (Xw (v := vb (!r.wr)) Z E Z Z (Xe (v := vb (!r.wr)) Z Z (Xb ⟨(cB (by simp [ab, G, J, O, E, ac])), Z⟩))))))))))
 exact Xj Z Z Z ac Z (Xj Z Z Z ac Z (Xg Z Z Z E (Xp (v := vb false) Z ac Z Z (Xg Z Z Z E (Yn (b' := true) Z Z Z (Xw (v := vb true) Z E Z Z (Xe (v := vb true) Z Z (Xb ⟨(cB (by simp [ab, G, J, O, E, ac])), Z⟩))))))))
 have aq := of_decide_eq_false E
 iterate 3 refine Xj rfl rfl rfl E rfl ?_
 exact Yu Z Z Z Z (Yu Z Z Z Z (Xj Z Z Z E Z (Xj Z Z Z E Z (Xp (v := vb false) Z E Z Z (Xe (v := vb false) Z Z (Xb ⟨(cB (by simp [ab, G, J, O, E])), Z⟩))))))
 have ar := of_decide_eq_false O
 iterate 3 refine Xj rfl rfl rfl O rfl ?_
 refine Xp (v := vb false) Z O Z Z (Xd (v := vb false) Z Z ?_)
 iterate 3 refine Xj rfl rfl rfl rfl rfl ?_
 exact Yu Z Z Z Z (Yu Z Z Z Z (Xj Z Z Z Z Z (Xj Z Z Z Z Z (Xp (v := vb false) Z Z Z Z (Xe (v := vb false) Z Z (Xb ⟨(cB (by simp [ab, G, J, O])), Z⟩))))))
 have au := of_decide_eq_false J
 iterate 3 refine Xj rfl rfl rfl J rfl ?_
 refine Xp (v := vb false) Z J Z Z (Xd (v := vb false) Z Z ?_)
 iterate 3 refine Xj rfl rfl rfl rfl rfl ?_
 refine Xp (v := vb false) Z Z Z Z (Xd (v := vb false) Z Z ?_)
 iterate 3 refine Xj rfl rfl rfl rfl rfl ?_
 exact Yu Z Z Z Z (Yu Z Z Z Z (Xj Z Z Z Z Z (Xj Z Z Z Z Z (Xp (v := vb false) Z Z Z Z (Xe (v := vb false) Z Z (Xb ⟨(cB (by simp [ab, G, J])), Z⟩))))))
 have av := of_decide_eq_false G
 iterate 3 refine Xj rfl rfl rfl G rfl ?_
 refine Xp (v := vb false) Z G Z Z (Xd (v := vb false) Z Z ?_)
 iterate 3 refine Xj rfl rfl rfl rfl rfl ?_
 refine Xp (v := vb false) Z Z Z Z (Xd (v := vb false) Z Z ?_)
 iterate 3 refine Xj rfl rfl rfl rfl rfl ?_
 refine Xp (v := vb false) Z Z Z Z (Xd (v := vb false) Z Z ?_)
 iterate 3 refine Xj rfl rfl rfl rfl rfl ?_
 exact Yu Z Z Z Z (Yu Z Z Z Z (Xj Z Z Z Z Z (Xj Z Z Z Z Z (Xp (v := vb false) Z Z Z Z (Xe (v := vb false) Z Z (Xb ⟨(cB (by simp [ab, G])), Z⟩))))))
 rintro aj aw ⟨ae, rfl⟩
 refine Xt (⟨vb (((((decide (1 ≤ r.th)) && (decide (r.th ≤ 8))) && (decide (0 ≤ r.ve))) && (decide (r.ve ≤ 5))) && (!(r.wk && r.wr))), Yt Z ae, ?_, ad⟩)
 simp [rightOk, inR, Bool.and_assoc, ab]
end Go.Proofs.YtlhhijnmacogcaaGreatDoor
end
section
namespace Go.Proofs.YtlhhijnmacogcaaGreatDoor
open Go.RowKit Go.Dw
set_option maxRecDepth 100000
set_option maxHeartbeats 4000000
set_option linter.unusedSimpArgs false
set_option linter.unusedVariables false
theorem Ub : fieldOff Tryz.prog 33 2 = some 2 := by kernel_rfl
theorem F3 : goFn Tryz.prog 105 = true := by kernel_rfl
theorem K0 : goFn Tryz.prog 52 = true := by kernel_rfl
theorem K3 : zeroTy Tryz.prog 33 = some (.agg #[.int .i64 0, .int .i64 0, .bool false, .bool false, .bool false]) := by kernel_rfl
theorem Kk (n lo hi : Int) (w : World) : CallsR Tryz.prog 52 #[vi n, vi lo, vi hi] w (fun v w' => v = vb (inR n lo hi) ∧ w.grownBy w' none) := by
 refine Xx (n := 15) Tryz.func52 Z Tryz.ntmps52 Z (Xa (Xe (v := vb false) Z Z (Xb (Ya (fun f' w' => (f' 6 = vb ((decide (lo ≤ n)) && (decide (n ≤ hi)))) ∧ w = w') ?_ ?_))))
 refine Xd (v := vi n) Z Z (Xd (v := vi lo) Z Z (V0 (q := decide (lo ≤ n)) Z Z Z Z (Xd (v := vb (decide (lo ≤ n))) Z Z ?_)))
 rcases Yg (decide (lo ≤ n)) with E | E
 have O := of_decide_eq_true E
 exact Xg Z Z Z E (Xd (v := vi n) Z Z (Xg Z Z Z E (Xd (v := vi hi) Z Z (Xg Z Z Z E (Vj (q := decide (n ≤ hi)) Z Z Z Z (Xw (v := vb (decide (n ≤ hi))) Z E Z Z (Xe (v := vb (decide (n ≤ hi))) Z Z (Xb ⟨(cB (by simp [E])), Z⟩))))))))
 have V := of_decide_eq_false E
 iterate 3 refine Xj rfl rfl rfl E rfl ?_
 exact Xp (v := vb false) Z E Z Z (Xe (v := vb false) Z Z (Xb ⟨(cB (by simp [E])), Z⟩))
 rintro J ab ⟨G, rfl⟩
 refine Xt (⟨vb ((decide (lo ≤ n)) && (decide (n ≤ hi))), Yt Z G, ?_, (World.grownBy.refl w none)⟩)
 rfl
theorem Jv (n lo hi : Int) (w : World) : CallsR Tryz.prog 62 #[vi n, vi lo, vi hi] w (fun v w' => v = vb (inR n lo hi) ∧ w.grownBy w' none) := by
 refine Xx (n := 15) Tryz.func62 Z Tryz.ntmps62 Z (Xa (Xe (v := vb false) Z Z (Xb (Ya (fun f' w' => (f' 6 = vb ((decide (lo ≤ n)) && (decide (n ≤ hi)))) ∧ w = w') ?_ ?_))))
 refine Xd (v := vi lo) Z Z (Xd (v := vi n) Z Z (Vj (q := decide (lo ≤ n)) Z Z Z Z (Xd (v := vb (decide (lo ≤ n))) Z Z ?_)))
 rcases Yg (decide (lo ≤ n)) with E | E
 have O := of_decide_eq_true E
 exact Xg Z Z Z E (Xd (v := vi n) Z Z (Xg Z Z Z E (Xd (v := vi hi) Z Z (Xg Z Z Z E (Vj (q := decide (n ≤ hi)) Z Z Z Z (Xw (v := vb (decide (n ≤ hi))) Z E Z Z (Xe (v := vb (decide (n ≤ hi))) Z Z (Xb ⟨(cB (by simp [E])), Z⟩))))))))
 have V := of_decide_eq_false E
 iterate 3 refine Xj rfl rfl rfl E rfl ?_
 exact Xp (v := vb false) Z E Z Z (Xe (v := vb false) Z Z (Xb ⟨(cB (by simp [E])), Z⟩))
 rintro J ab ⟨G, rfl⟩
 refine Xt (⟨vb ((decide (lo ≤ n)) && (decide (n ≤ hi))), Yt Z G, ?_, (World.grownBy.refl w none)⟩)
 rfl
theorem Sz (l : Lab) (w : World) : CallsR Tryz.prog 84 #[.agg #[vi l.s, vi l.v]] w (fun v w' => v = vb (labelOk l) ∧ w.grownBy w' none) := by
 refine Xx (n := 11) Tryz.func84 Z Tryz.ntmps84 Z ?_
 have ac := World.grownBy.refl w none
 refine Xa (Y7 (v := .agg #[vi l.s, vi l.v]) (cs := #[vi l.s, vi l.v]) Z Z Z ?_)
 intro af ad G
 have ae := Yd G ac
 refine Xe (v := vb false) Z Z (Xb (Ya (fun f' w' => (f' 2 = vb (inR l.s 0 3 && inR l.v 0 3)) ∧ ad.grownBy w' none) ?_ ?_))
 refine Xc (o' := 0) U3 Z Z Z (Xh (v := vi l.s) X1 Z (G.blk.cell Z) Z (Xn K0 (Xf Z (Xf Z (Xf Z Xm))) Z (Kk l.s 0 3 _) ?_))
 rintro _ ah ⟨rfl, J⟩
 refine Xd (v := vb (inR l.s 0 3)) Z Z ?_
 rcases Yg (inR l.s 0 3) with E | E
 refine Xg Z Z Z E (Xc (o' := 1) Wy Z Z Z (Xg Z Z Z E (Xh (v := vi l.v) X1 Z ((G.blk.grown0 J).cell Z) Z (Xg Z Z Z E (Xn K0 (Xf Z (Xf Z (Xf Z Xm))) Z (Kk l.v 0 3 _) ?_)))))
 rintro _ ai ⟨rfl, O⟩
 exact Xw (v := vb (inR l.v 0 3)) Z E Z Z (Xe (v := vb (inR l.v 0 3)) Z Z (Xb ⟨(cB (by simp [E])), (grown_trans J O)⟩))
 iterate 3 refine Xj rfl rfl rfl E rfl ?_
 exact Xp (v := vb false) Z E Z Z (Xe (v := vb false) Z Z (Xb ⟨(cB (by simp [E])), J⟩))
 rintro ag aj ⟨ab, V⟩
 refine Xt (⟨vb (inR l.s 0 3 && inR l.v 0 3), Yt Z ab, ?_, (low0 (low0 ac G.grw) V)⟩)
 rfl
theorem Ih (a b : Int) (ha : 0 ≤ a ∧ a ≤ 3) (hb : 0 ≤ b ∧ b ≤ 3) (w : World) : CallsR Tryz.prog 105 #[vi a, vi b] w (fun v w' => v = vb (l1In a b) ∧ w.grownBy w' none) := by
 refine Xx (n := 17) Tryz.func105 Z Tryz.ntmps105 Z (Xa (Xe (v := vb false) Z Z (Xb (Ya (fun f' w' => (f' 4 = vb ((decide (a % 2 ≤ b % 2)) && (decide (a / 2 ≤ b / 2)))) ∧ w = w') ?_ ?_))))
 refine Xd (v := vi a) Z Z (Q9 (c := a % 2) Z Z (by omega) (by omega) (by omega) Z Z (Xd (v := vi b) Z Z (Q9 (c := b % 2) Z Z (by omega) (by omega) (by omega) Z Z (Vj (q := decide (a % 2 ≤ b % 2)) Z Z Z Z (Xd (v := vb (decide (a % 2 ≤ b % 2))) Z Z ?_)))))
 rcases Yg (decide (a % 2 ≤ b % 2)) with E | E
 have O := of_decide_eq_true E
 exact Xg Z Z Z E (Xd (v := vi a) Z Z (Xg Z Z Z E (K5 (c := a / 2) Z Z (by omega) (by omega) (by omega) Z Z (Xg Z Z Z E (Xd (v := vi b) Z Z (Xg Z Z Z E (K5 (c := b / 2) Z Z (by omega) (by omega) (by omega) Z Z (Xg Z Z Z E (Vj (q := decide (a / 2 ≤ b / 2)) Z Z Z Z (Xw (v := vb (decide (a / 2 ≤ b / 2))) Z E Z Z (Xe (v := vb (decide (a / 2 ≤ b / 2))) Z Z (Xb ⟨(cB (by simp [E])), Z⟩))))))))))))
 have V := of_decide_eq_false E
 iterate 5 refine Xj rfl rfl rfl E rfl ?_
 exact Xp (v := vb false) Z E Z Z (Xe (v := vb false) Z Z (Xb ⟨(cB (by simp [E])), Z⟩))
 rintro J ab ⟨G, rfl⟩
 refine Xt (⟨vb ((decide (a % 2 ≤ b % 2)) && (decide (a / 2 ≤ b / 2))), Yt Z G, ?_, (World.grownBy.refl w none)⟩)
 rfl
theorem Rm (a b : Lab) (hla : labelOk a = true) (hlb : labelOk b = true) (w : World) : CallsR Tryz.prog 87 #[.agg #[vi a.s, vi a.v], .agg #[vi b.s, vi b.v]] w (fun v w' => v = vb (flow a b) ∧ w.grownBy w' none) := by
 refine Xx (n := 17) Tryz.func87 Z Tryz.ntmps87 Z ?_
 have ag := World.grownBy.refl w none
 obtain ⟨⟨ar, ha2⟩, ha3, au⟩ := (Vr a).1 hla
 obtain ⟨⟨hc1, av⟩, hc3, aw⟩ := (Vr b).1 hlb
 refine Xa (Y7 (v := .agg #[vi a.s, vi a.v]) (cs := #[vi a.s, vi a.v]) Z Z Z ?_)
 intro ak an J
 have ai := Yd J ag
 have V := low0 ag J.grw
 refine Y7 (v := .agg #[vi b.s, vi b.v]) (cs := #[vi b.s, vi b.v]) Z Z Z ?_
 intro al ah G
 have aj := Yd G V
 have ab := Xo G (J.blk).lt
 refine Xe (v := vb false) Z Z (Xb (Ya (fun f' w' => (f' 4 = vb (l1In a.s b.s && l1In b.v a.v)) ∧ ah.grownBy w' none) ?_ ?_))
 refine Xc (o' := 0) U3 Z Z Z ?_
 have ac := (J.blk.grown0 G.grw)
 refine Xh (v := vi a.s) X1 Z (ac.cell Z) Z (Xc (o' := 0) U3 Z Z Z (Xh (v := vi b.s) X1 Z (G.blk.cell Z) Z (Xn F3 (Xf Z (Xf Z Xm)) Z (Ih a.s b.s (by omega) (by omega) _) ?_)))
 rintro _ ao ⟨rfl, O⟩
 refine Xd (v := vb (l1In a.s b.s)) Z Z ?_
 rcases Yg (l1In a.s b.s) with E | E
 refine Xg Z Z Z E (Xc (o' := 1) Wy Z Z Z (Xg Z Z Z E (Xh (v := vi b.v) X1 Z ((G.blk.grown0 O).cell Z) Z (Xg Z Z Z E (Xc (o' := 1) Wy Z Z Z (Xg Z Z Z E (Xh (v := vi a.v) X1 Z ((ac.grown0 O).cell Z) Z (Xg Z Z Z E (Xn F3 (Xf Z (Xf Z Xm)) Z (Ih b.v a.v (by omega) (by omega) _) ?_)))))))))
 rintro _ ap ⟨rfl, ad⟩
 exact Xw (v := vb (l1In b.v a.v)) Z E Z Z (Xe (v := vb (l1In b.v a.v)) Z Z (Xb ⟨(cB (by simp [E])), (grown_trans O ad)⟩))
 iterate 5 refine Xj rfl rfl rfl E rfl ?_
 exact Xp (v := vb false) Z E Z Z (Xe (v := vb false) Z Z (Xb ⟨(cB (by simp [E])), O⟩))
 rintro am aq ⟨af, ae⟩
 refine Xt (⟨vb (l1In a.s b.s && l1In b.v a.v), Yt Z af, ?_, (low0 (low0 V G.grw) ae)⟩)
 rfl
theorem Lj (r : Rt) (w : World) : CallsR Tryz.prog 81 #[.agg #[vi r.th, vi r.ve, vb r.rd, vb r.wr, vb r.wk]] w (fun v w' => v = vb (rightOk r) ∧ w.grownBy w' none) := by
 refine Xx (n := 26) Tryz.func81 Z Tryz.ntmps81 Z ?_
 have ai := World.grownBy.refl w none
 refine Xa (Y7 (v := .agg #[vi r.th, vi r.ve, vb r.rd, vb r.wr, vb r.wk]) (cs := #[vi r.th, vi r.ve, vb r.rd, vb r.wr, vb r.wk]) Z Z Z ?_)
 intro al aj V
 have ak := Yd V ai
 have ad := low0 ai V.grw
 refine Xe (v := vb false) Z Z (Xb (Xq (Xa (Xc (o' := 0) Yo Z Z Z (Xh (v := vi r.th) X1 Z (V.blk.cell Z) Z (X6 (q := decide (r.th = 0)) Z Z Z Z (Xb (X0 Z (fun J => ?_) (fun J => ?_)))))))))
 have an := of_decide_eq_true J
 refine Xa (Xr (vs := [vi r.th, vi r.ve, vb r.rd, vb r.wr, vb r.wk]) Y0 Z Z (V.blk.rangeL 0 5 Z) Z (Yv (ps := []) (v := .agg #[vi 0, vi 0, vb false, vb false, vb false]) X5 (by kernel_rfl) Z (Hv (q := decide (r = Rt.zero)) Z Z (M5 _ _ r Rt.zero _) (Sg r Rt.zero _) Z Z (Xe (v := vb (decide (r = Rt.zero))) Z Z (Xb (Xt (Yk (⟨vb (decide (r = Rt.zero)), Yt Z Z, ?_, ad⟩))))))))
 exact cB (Nh J)
 have ao := of_decide_eq_false J
 refine Xz (Xu (Ya (fun f' w' => (f' 2 = vb ((inR r.th 1 8 && inR r.ve 0 5) && (!(r.wk && r.wr)))) ∧ aj.grownBy w' none) ?_ ?_))
 refine Xc (o' := 0) Yo Z Z Z (Xh (v := vi r.th) X1 Z (V.blk.cell Z) Z (Xn K0 (Xf Z (Xf Z (Xf Z Xm))) Z (Kk r.th 1 8 _) ?_))
 rintro _ ap ⟨rfl, ab⟩
 refine Xd (v := vb (inR r.th 1 8)) Z Z ?_
 rcases Yg (inR r.th 1 8) with G | G
 refine Xg Z Z Z G (Xc (o' := 1) Kv Z Z Z (Xg Z Z Z G ?_))
 have ae := (V.blk.grown0 ab)
 refine Xh (v := vi r.ve) X1 Z (ae.cell Z) Z (Xg Z Z Z G (Xn K0 (Xf Z (Xf Z (Xf Z Xm))) Z (Kk r.ve 0 5 _) ?_))
 rintro _ aq ⟨rfl, ac⟩
 refine Xw (v := vb (inR r.ve 0 5)) Z G Z Z (Xd (v := vb (inR r.ve 0 5)) Z Z ?_)
 rcases Yg (inR r.ve 0 5) with E | E
 refine Xg Z Z Z E (Xc (o' := 4) Ve Z Z Z (Xg Z Z Z E ?_))
 have af := (ae.grown0 ac)
 refine Xh (v := vb r.wk) Jw Z (af.cell Z) Z (Xg Z Z Z E (Xd (v := vb r.wk) Z Z ?_))
 rcases Yg (r.wk) with O | O
 exact Xg Z Z Z O (Xc (o' := 3) Vd Z Z Z (Xg Z Z Z O (Xh (v := vb r.wr) Jw Z (af.cell Z) Z (Xg Z Z Z E (Xw (v := vb r.wr) Z O Z Z (Xg Z Z Z E (Yn (b' := !r.wr) Z Z Z (Xw (v := vb (!r.wr)) Z E Z Z (Xe (v := vb (!r.wr)) Z Z (Xb ⟨(cB (by simp [J, G, E, O])), (grown_trans ab ac)⟩))))))))))
 exact Xj Z Z Z O Z (Xj Z Z Z O Z (Xg Z Z Z E (Xp (v := vb false) Z O Z Z (Xg Z Z Z E (Yn (b' := true) Z Z Z (Xw (v := vb true) Z E Z Z (Xe (v := vb true) Z Z (Xb ⟨(cB (by simp [J, G, E, O])), (grown_trans ab ac)⟩))))))))
 iterate 3 refine Xj rfl rfl rfl E rfl ?_
 exact Yu Z Z Z Z (Yu Z Z Z Z (Xj Z Z Z E Z (Xj Z Z Z E Z (Xp (v := vb false) Z E Z Z (Xe (v := vb false) Z Z (Xb ⟨(cB (by simp [J, G, E])), (grown_trans ab ac)⟩))))))
 iterate 3 refine Xj rfl rfl rfl G rfl ?_
 refine Xp (v := vb false) Z G Z Z (Xd (v := vb false) Z Z ?_)
 iterate 3 refine Xj rfl rfl rfl rfl rfl ?_
 exact Yu Z Z Z Z (Yu Z Z Z Z (Xj Z Z Z Z Z (Xj Z Z Z Z Z (Xp (v := vb false) Z Z Z Z (Xe (v := vb false) Z Z (Xb ⟨(cB (by simp [J, G])), ab⟩))))))
 rintro am ar ⟨ah, ag⟩
 refine Xt (⟨vb ((inR r.th 1 8 && inR r.ve 0 5) && (!(r.wk && r.wr))), Yt Z ah, ?_, (low0 ad ag)⟩)
 exact cB (Mb J)
theorem Rn (r : Rt) (a b c : Bool) (w : World) : CallsR Tryz.prog 56 #[.agg #[vi r.th, vi r.ve, vb r.rd, vb r.wr, vb r.wk], vb a, vb b, vb c] w (fun v w' => v = .agg #[vi (l2Less r a b c).th, vi (l2Less r a b c).ve, vb (l2Less r a b c).rd, vb (l2Less r a b c).wr, vb (l2Less r a b c).wk] ∧ w.grownBy w' none) := by
 refine Xx (n := 36) Tryz.func56 Z Tryz.ntmps56 Z ?_
 have bc := World.grownBy.refl w none
 refine Xa (Y7 (v := .agg #[vi r.th, vi r.ve, vb r.rd, vb r.wr, vb r.wk]) (cs := #[vi r.th, vi r.ve, vb r.rd, vb r.wr, vb r.wk]) Z Z Z ?_)
 intro ak bn ac
 have bg := Yd ac bc
 have ap := low0 bc ac.grw
 refine Yf (cs := #[vi 0, vi 0, vb false, vb false, vb false]) K3 Z Z ?_
 intro al bd J
 have bh := Yd J ap
 have ar := Xo J (ac.blk).lt
 have aq := low0 ap J.grw
 refine Xb (Xq (Xa (Xc (o' := 0) Yo Z Z Z ?_)))
 have aj := (ac.blk.grown0 J.grw)
 refine Xh (v := vi r.th) X1 Z (aj.cell Z) Z (X6 (q := decide (r.th = 0)) Z Z Z Z (Xb (X0 Z (fun E => ?_) (fun E => ?_))))
 have bl := of_decide_eq_true E
 refine Xa (Xr (vs := [vi r.th, vi r.ve, vb r.rd, vb r.wr, vb r.wk]) Y0 Z Z (aj.rangeL 0 5 Z) Z (Xy (vs := [vi r.th, vi r.ve, vb r.rd, vb r.wr, vb r.wk]) (cs' := #[vi r.th, vi r.ve, vb r.rd, vb r.wr, vb r.wk]) Y0 Z Z Z (by simp [Value.oneCell']) J.blk (Nat.le_of_ble_eq_true Z) Z ?_))
 intro bp an
 refine Xb (Xt (Yk (⟨.agg #[vi r.th, vi r.ve, vb r.rd, vb r.wr, vb r.wk], Jt Z (Yh (vs := [vi r.th, vi r.ve, vb r.rd, vb r.wr, vb r.wk]) Y0 Z Z (an.blk.rangeL 0 5 Z)), ?_, (low1 aq an.grw (by omega))⟩)))
 rw [Rp E]
 have bm := of_decide_eq_false E
 refine Xz (Xu (Xa (G9 5 (fun f' w' => (f' 2 = vb b ∧ f' 3 = vb c ∧ f' 4 = pt ak 0 ∧ f' 8 = pt al 0 ∧ f' 17 = vb (r.rd && a)) ∧ bd = w') ?_ ?_)))
 simp only [List.take_succ_cons, List.take_zero]
 refine Xc (o' := 2) Ub Z Z Z (Xh (v := vb r.rd) Jw Z (aj.cell Z) Z (Xd (v := vb r.rd) Z Z ?_))
 rcases Yg (r.rd) with V | V
 exact Xg Z Z Z V (Xd (v := vb a) Z Z (Xw (v := vb a) Z V Z Z (Xb ⟨⟨Z, Z, Z, Z, (cB (by simp [E, V]))⟩, Z⟩)))
 exact Xj Z Z Z V Z (Xp (v := vb false) Z V Z Z (Xb ⟨⟨Z, Z, Z, Z, (cB (by simp [E, V]))⟩, Z⟩))
 rintro bi bq ⟨⟨az, ah, af, am, a8⟩, rfl⟩
 simp only [List.drop_succ_cons, List.drop_zero]
 refine Xc (o' := 2) Ub af Z Z (Yc (v := vb (r.rd && a)) (cs' := #[vi r.th, vi r.ve, vb (r.rd && a), vb r.wr, vb r.wk]) Jw Z a8 Z aj (Nat.le_of_ble_eq_true Z) Z ?_)
 intro be ad
 refine Xb (Xa (G9 8 (fun f' w' => (f' 3 = vb c ∧ f' 4 = pt ak 0 ∧ f' 8 = pt al 0 ∧ f' 26 = vb ((r.wr && b) && c)) ∧ be = w') ?_ ?_))
 simp only [List.take_succ_cons, List.take_zero]
 refine Xc (o' := 3) Vd af Z Z (Xh (v := vb r.wr) Jw Z (ad.blk.cell Z) Z (Xd (v := vb r.wr) Z Z ?_))
 rcases Yg (r.wr) with O | O
 refine Xg Z Z Z O (Xd (v := vb b) az Z (Xw (v := vb b) Z O Z Z (Xd (v := vb b) Z Z ?_)))
 rcases Yg (b) with ab | ab
 exact Xg Z Z Z ab (Xd (v := vb c) ah Z (Xw (v := vb c) Z ab Z Z (Xb ⟨⟨ah, af, am, (cB (by simp [E, O, ab]))⟩, Z⟩)))
 exact Xj Z Z Z ab Z (Xp (v := vb false) Z ab Z Z (Xb ⟨⟨ah, af, am, (cB (by simp [E, O, ab]))⟩, Z⟩))
 exact Xj Z Z Z O Z (Xp (v := vb false) Z O Z Z (Xd (v := vb false) Z Z (Xj Z Z Z Z Z (Xp (v := vb false) Z Z Z Z (Xb ⟨⟨ah, af, am, (cB (by simp [E, O]))⟩, Z⟩)))))
 rintro bj br ⟨⟨a9, ai, au, ba⟩, rfl⟩
 simp only [List.drop_succ_cons, List.drop_zero]
 refine Xc (o' := 3) Vd ai Z Z (Yc (v := vb ((r.wr && b) && c)) (cs' := #[vi r.th, vi r.ve, vb (r.rd && a), vb ((r.wr && b) && c), vb r.wk]) Jw Z ba Z ad.blk (Nat.le_of_ble_eq_true Z) Z ?_)
 intro bf ae
 refine Xb (Xa (G9 6 (fun f' w' => (f' 4 = pt ak 0 ∧ f' 8 = pt al 0 ∧ f' 33 = vb (r.wk || (!c))) ∧ bf = w') ?_ ?_))
 simp only [List.take_succ_cons, List.take_zero]
 refine Xc (o' := 4) Ve ai Z Z (Xh (v := vb r.wk) Jw Z (ae.blk.cell Z) Z (Xd (v := vb r.wk) Z Z ?_))
 rcases Yg (r.wk) with G | G
 exact Xj Z Z Z G Z (Xj Z Z Z G Z (Xw (v := vb true) Z G Z Z (Xb ⟨⟨ai, au, (cB (by simp [E, G]))⟩, Z⟩)))
 exact Xg Z Z Z G (Xd (v := vb c) a9 Z (Xg Z Z Z G (Yn (b' := !c) Z Z Z (Xp (v := vb (!c)) Z G Z Z (Xb ⟨⟨ai, au, (cB (by simp [E, G]))⟩, Z⟩)))))
 rintro bk bt ⟨⟨av, aw, bb⟩, rfl⟩
 simp only [List.drop_succ_cons, List.drop_zero]
 refine Xc (o' := 4) Ve av Z Z (Yc (v := vb (r.wk || (!c))) (cs' := #[vi r.th, vi r.ve, vb (r.rd && a), vb ((r.wr && b) && c), vb (r.wk || (!c))]) Jw Z bb Z ae.blk (Nat.le_of_ble_eq_true Z) Z ?_)
 intro bu ag
 refine Xb (Xa (Xr (vs := [vi r.th, vi r.ve, vb (r.rd && a), vb ((r.wr && b) && c), vb (r.wk || (!c))]) Y0 av Z (ag.blk.rangeL 0 5 Z) Z (Xy (vs := [vi r.th, vi r.ve, vb (r.rd && a), vb ((r.wr && b) && c), vb (r.wk || (!c))]) (cs' := #[vi r.th, vi r.ve, vb (r.rd && a), vb ((r.wr && b) && c), vb (r.wk || (!c))]) Y0 aw Z Z (by simp [Value.oneCell']) (((J.blk.gn ad.grw).gn ae.grw).gn ag.grw) (Nat.le_of_ble_eq_true Z) Z ?_)))
 intro bv ao
 refine Xb (Xt (⟨.agg #[vi r.th, vi r.ve, vb (r.rd && a), vb ((r.wr && b) && c), vb (r.wk || (!c))], Jt Z (Yh (vs := [vi r.th, vi r.ve, vb (r.rd && a), vb ((r.wr && b) && c), vb (r.wk || (!c))]) Y0 aw Z (ao.blk.rangeL 0 5 Z)), ?_, (low1 (low1 (low1 (low1 aq ad.grw (by omega)) ae.grw (by omega)) ag.grw (by omega)) ao.grw (by omega))⟩))
 rw [Ro E]
end Go.Proofs.YtlhhijnmacogcaaGreatDoor
end
section
namespace Go.Proofs.YtlhhijnmacogcaaGreatDoor
open Go.RowKit Go.Dw
set_option maxRecDepth 100000
set_option maxHeartbeats 4000000
set_option linter.unusedSimpArgs false
set_option linter.unusedVariables false
theorem Ov (r : Rt) (hr : decide (r.th = 0) = true) (w : World) : CallsR Tryz.prog 112 #[.agg #[vi r.th, vi r.ve, vb r.rd, vb r.wr, vb r.wk]] w (fun v w' => v = .iface 149 (.agg #[]) ∧ w.grownBy w' none) := by
 refine Xx (n := 11) Tryz.func112 Z Tryz.ntmps112 Z ?_
 have G := World.grownBy.refl w none
 refine Xa (Y7 (v := .agg #[vi r.th, vi r.ve, vb r.rd, vb r.wr, vb r.wk]) (cs := #[vi r.th, vi r.ve, vb r.rd, vb r.wr, vb r.wk]) Z Z Z ?_)
 intro O V E
 have J := Yd E G
 refine Xe (v := .nilIface) Z Z (Xb (Xq (Xa (Xc (o' := 0) Yo Z Z Z (Xh (v := vi r.th) X1 Z (E.blk.cell Z) Z (X6 (q := decide (r.th = 0)) Z Z Z Z (Xb (Qa Z hr (Xa (Yv (ps := []) (v := .agg #[]) X5 (by kernel_rfl) Z (Kz (v := .agg #[]) (by kernel_rfl) Z Z (Xe (v := .iface 149 (.agg #[])) Z Z ?_))))))))))))
 refine Xb (Xt (Yk (⟨.iface 149 (.agg #[]), Yt Z Z, ?_, (low0 G E.grw)⟩)))
 rfl
theorem Ou (r : Rt) (hr : decide (r.th = 0) = false) (w : World) : CallsR Tryz.prog 112 #[.agg #[vi r.th, vi r.ve, vb r.rd, vb r.wr, vb r.wk]] w (fun v w' => v = .iface 151 (.agg #[vi r.th, vi r.ve, vb r.rd, vb r.wr, vb r.wk]) ∧ w.grownBy w' none) := by
 refine Xx (n := 11) Tryz.func112 Z Tryz.ntmps112 Z ?_
 have G := World.grownBy.refl w none
 refine Xa (Y7 (v := .agg #[vi r.th, vi r.ve, vb r.rd, vb r.wr, vb r.wk]) (cs := #[vi r.th, vi r.ve, vb r.rd, vb r.wr, vb r.wk]) Z Z Z ?_)
 intro O V E
 have J := Yd E G
 refine Xe (v := .nilIface) Z Z (Xb (Xq (Xa (Xc (o' := 0) Yo Z Z Z (Xh (v := vi r.th) X1 Z (E.blk.cell Z) Z (X6 (q := decide (r.th = 0)) Z Z Z Z (Xb (Y4 Z hr (Xz (Xu (Xa (Xr (vs := [vi r.th, vi r.ve, vb r.rd, vb r.wr, vb r.wk]) Y0 Z Z (E.blk.rangeL 0 5 Z) Z ?_))))))))))))
 refine Yv (ps := [(0, .agg #[vi r.th, vi r.ve, vb r.rd, vb r.wr, vb r.wk])]) (v := .agg #[vi r.th, vi r.ve, vb r.rd, vb r.wr, vb r.wk]) (Xk Z X5) (by kernel_rfl) Z (Kz (v := .agg #[vi r.th, vi r.ve, vb r.rd, vb r.wr, vb r.wk]) (by kernel_rfl) Z Z (Xe (v := .iface 151 (.agg #[vi r.th, vi r.ve, vb r.rd, vb r.wr, vb r.wk])) Z Z (Xb (Xt (⟨.iface 151 (.agg #[vi r.th, vi r.ve, vb r.rd, vb r.wr, vb r.wk]), Yt Z Z, ?_, (low0 G E.grw)⟩)))))
 rfl
end Go.Proofs.YtlhhijnmacogcaaGreatDoor
end
section
namespace Go.Proofs.YtlhhijnmacogcaaGreatDoor
open Go.RowKit Go.Dw
set_option maxRecDepth 100000
set_option maxHeartbeats 4000000
set_option linter.unusedSimpArgs false
set_option linter.unusedVariables false
theorem M6 : elemSz Tryz.prog 22 = some 1 := by kernel_rfl
theorem J4 : elemSz Tryz.prog 37 = some 1 := by kernel_rfl
theorem Uc : fieldOff Tryz.prog 76 0 = some 0 := by kernel_rfl
theorem N1 : fieldOff Tryz.prog 76 1 = some 1 := by kernel_rfl
theorem Qo : goFn Tryz.prog 28 = true := by kernel_rfl
theorem Hk : oneTy Tryz.prog 22 = true := by kernel_rfl
theorem Xbt : oneTy Tryz.prog 5 = true := by kernel_rfl
theorem Qb (p n : Int) (hp : 0 ≤ p ∧ p ≤ 1099511627776) (lo R : Nat) (bs : List Int) (a : Option Addr) (c : Nat) (w : World) (hR : Blk w R 76 #[.slice a bs.length c, vi p]) (hlo : lo ≤ R) (hs : SlLt lo w a 1 (bs.map bcell)) (hb : ∀ b ∈ bs, 0 ≤ b ∧ b ≤ 255) (hn : bs.length ≤ 1048576) : CallsR Tryz.prog 28 #[pt R 0, vi n] w (fun v w' => ∃ k : Int, v = vi k ∧ 0 ≤ k ∧ (k < n ∨ k = 0) ∧ Blk w' R 76 #[.slice a bs.length c, vi (p + 1)] ∧ w.grownBy w' (some R)) := by
 refine Xx (n := 99) Tryz.func28 Z Tryz.ntmps28 Z ?_
 have hRlt := hR.lt
 refine Xa (Xe (v := vi 0) Z Z (Xb (Xa (Xd (v := pt R 0) Z Z (Xd (v := pt R 0) Z Z (Xs Z Z (Xc (o' := 1) N1 Z Z Z (Xh (v := vi p) X1 Z (hR.cell Z) Z (Yl (c := p + 1) Z Z (by omega) (by omega) (by omega) Z (Xs Z Z (Xc (o' := 1) N1 Z Z Z (Yc (v := vi (p + 1)) (cs' := #[.slice a bs.length c, vi (p + 1)]) X1 Z Z Z hR (Nat.le_of_ble_eq_true Z) Z ?_))))))))))))
 intro ak J
 have V := grown_trans (World.grownBy.refl w (some R)) J.grw
 refine Xb (Xq (Ya (fun f' w' => (f' 0 = pt R 0 ∧ f' 1 = vi n ∧ f' 4 = vi 0 ∧ f' 24 = vb ((decide (n < 1)) || (decide ((bs.length : Int) = 0)))) ∧ ak = w') ?_ ?_))
 refine Xd (v := vi n) Z Z (Qg (q := decide (n < 1)) Z Z Z Z (Xd (v := vb (decide (n < 1))) Z Z ?_))
 rcases Yg (decide (n < 1)) with O | O
 have ck := of_decide_eq_true O
 iterate 6 refine Xj rfl rfl rfl O rfl ?_
 exact Xw (v := vb true) Z O Z Z (Xb ⟨⟨Z, Z, Z, (cB (by simp [O]))⟩, Z⟩)
 have cl := of_decide_eq_false O
 refine Xg Z Z Z O (Xd (v := pt R 0) Z Z (Xg Z Z Z O (Xs Z Z (Xg Z Z Z O (Xc (o' := 0) Uc Z Z Z (Xg Z Z Z O (Xh (v := .slice a bs.length c) Hk Z (J.blk.cell Z) Z (Xg Z Z Z O (Y1 (by kernel_rfl) Z Z (Xg Z Z Z O (X6 (q := decide ((bs.length : Int) = 0)) Z Z Z Z (Xp (v := vb (decide ((bs.length : Int) = 0))) Z O Z Z ?_))))))))))))
 exact Xb ⟨⟨Z, Z, Z, (cB (by simp [O]))⟩, Z⟩
 rintro cj c8 ⟨⟨ab, aj, cg, bf⟩, rfl⟩
 refine X0 bf (fun ad => ?_) (fun ad => ?_)
 refine Xa (Xe (v := vi 0) Z Z (Xb (Xt (Yk ?_))))
 refine ⟨vi 0, Yt Z Z, 0, Z, by omega, by omega, J.blk, V⟩
 have bg := Kl ad
 have cm := of_decide_eq_false bg
 have bh := Km ad
 have cn := of_decide_eq_false bh
 refine Xz (Xu (Xa (Xd (v := pt R 0) ab Z (Xs Z Z (Xc (o' := 1) N1 Z Z Z (Xh (v := vi (p + 1)) X1 Z (J.blk.cell Z) Z (Yr (c := (p + 1) - 1) Z Z (by omega) (by omega) (by omega) Z (Xe (v := vi ((p + 1) - 1)) Z Z (Xb (Xq (Xa (Xd (v := vi ((p + 1) - 1)) Z Z ?_))))))))))))
 refine Xd (v := pt R 0) ab Z (Xs Z Z (Xc (o' := 0) Uc Z Z Z (Xh (v := .slice a bs.length c) Hk Z (J.blk.cell Z) Z (Y1 (by kernel_rfl) Z Z (Qg (q := decide ((p + 1) - 1 < (bs.length : Int))) Z Z Z Z (Xb (X0 Z (fun ae => ?_) (fun ae => ?_))))))))
 have co := of_decide_eq_true ae
 refine Xa (Xd (v := pt R 0) ab Z (Xs Z Z (Xc (o' := 0) Uc Z Z Z (Xh (v := .slice a bs.length c) Hk Z (J.blk.cell Z) Z (Xd (v := vi ((p + 1) - 1)) Z Z ?_)))))
 obtain ⟨ac, ag⟩ := Ja (l := bs) (i := ((p + 1) - 1).toNat) (by omega)
 obtain ⟨cf, cw, cv, al, az, bn, ba⟩ := SlLt.at hs (Yp ag)
 have bk := hb ac (List.mem_of_getElem? ag)
 refine X3 M6 Z Z al az (by omega) (by omega) Z (Xh (v := .int .u8 ac) Xbt Z ((J0 ba V (Jj (by omega))) 0 _ Z) Z (Wu (P := Tryz.prog) (k' := .i64) Z (by kernel_rfl) (by kernel_rfl) (H8 (by omega) (by omega)) Z (Xd (v := vi n) aj Z ?_)))
 have br := Int.emod_nonneg ac (show n ≠ 0 by omega)
 have bt := Int.emod_lt_of_pos ac (show 0 < n by omega)
 refine Q9 (c := ac % n) Z Z (by omega) (by omega) (by omega) Z Z (Xe (v := vi (ac % n)) Z Z (Xb (Xt (Yk ?_))))
 refine ⟨vi (ac % n), Yt Z Z, (ac % n), Z, by omega, by omega, J.blk, V⟩
 have ct := of_decide_eq_false ae
 refine Xz (Xu (Xq ?_))
 have bu := Int.emod_nonneg ((p + 1) - 1) (show (bs.length : Int) ≠ 0 by omega)
 have bv := Int.emod_lt_of_pos ((p + 1) - 1) (show 0 < (bs.length : Int) by omega)
 obtain ⟨E, ah⟩ := Ja (l := bs) (i := (((p + 1) - 1) % (bs.length : Int)).toNat) (by omega)
 obtain ⟨bd, cy, bi, am, a8, bp, bb⟩ := SlLt.at hs (Yp ah)
 have bl := hb E (List.mem_of_getElem? ah)
 have bw := Int.emod_nonneg (((p + 1) - 1) * 7 + 3) (show (bs.length : Int) ≠ 0 by omega)
 have bx := Int.emod_lt_of_pos (((p + 1) - 1) * 7 + 3) (show 0 < (bs.length : Int) by omega)
 obtain ⟨G, ai⟩ := Ja (l := bs) (i := ((((p + 1) - 1) * 7 + 3) % (bs.length : Int)).toNat) (by omega)
 obtain ⟨be, cz, bj, an, a9, bq, bc⟩ := SlLt.at hs (Yp ai)
 have bm := hb G (List.mem_of_getElem? ai)
 have bz := Int.ediv_nonneg (show 0 ≤ ((p + 1) - 1) by omega) (show 0 ≤ (bs.length : Int) by omega)
 have ca := Int.ediv_le_self (bs.length : Int) (show 0 ≤ ((p + 1) - 1) by omega)
 refine Yy (m := 44) (vals := [(47, pt R 0), (48, pt R 0), (49, pt R 0), (50, .slice a bs.length c), (51, vi ((p + 1) - 1)), (52, pt R 0), (53, pt R 0), (54, pt R 0), (55, .slice a bs.length c), (56, vi (bs.length : Int)), (57, vi (((p + 1) - 1) % (bs.length : Int))), (58, pt bd bi), (59, .int .u8 E), (60, vi E), (61, vi (E * 131)), (62, pt R 0), (63, pt R 0), (64, pt R 0), (65, .slice a bs.length c), (66, vi ((p + 1) - 1)), (67, vi (((p + 1) - 1) * 7)), (68, vi (((p + 1) - 1) * 7 + 3)), (69, pt R 0), (70, pt R 0), (71, pt R 0), (72, .slice a bs.length c), (73, vi (bs.length : Int)), (74, vi ((((p + 1) - 1) * 7 + 3) % (bs.length : Int))), (75, pt be bj), (76, .int .u8 G), (77, vi G), (78, vi (G * 1117)), (79, vi (E * 131 + (G * 1117))), (80, vi ((p + 1) - 1)), (81, vi (((p + 1) - 1) * 29)), (82, vi (E * 131 + (G * 1117) + (((p + 1) - 1) * 29))), (83, vi ((p + 1) - 1)), (84, pt R 0), (85, pt R 0), (86, pt R 0), (87, .slice a bs.length c), (88, vi (bs.length : Int)), (89, vi (((p + 1) - 1) / (bs.length : Int))), (90, vi ((((p + 1) - 1) / (bs.length : Int)) * 53))]) (fun w' => ak.grownBy w' none) Yz (by kernel_rfl) (X8 _) ?_ ?_
 refine yl Z (fun _ _ k => Xd (v := pt R 0) ab Z k) (yl Z (fun _ _ k => Xs Z Z k) (yl Z (fun _ _ k => Xc (o' := 0) Uc Z Z Z k) (yl Z (fun _ ao k => Xh (v := .slice a bs.length c) Hk Z ((J.blk.grown0 ao).cell Z) Z k) (yl Z (fun _ _ k => Xd (v := vi ((p + 1) - 1)) Z Z k) (yl Z (fun _ _ k => Xd (v := pt R 0) ab Z k) (yl Z (fun _ _ k => Xs Z Z k) (yl Z (fun _ _ k => Xc (o' := 0) Uc Z Z Z k) (yl Z (fun _ ap k => Xh (v := .slice a bs.length c) Hk Z ((J.blk.grown0 ap).cell Z) Z k) (yl Z (fun _ _ k => Y1 (by kernel_rfl) Z Z k) (yl Z (fun _ _ k => Q9 (c := ((p + 1) - 1) % (bs.length : Int)) Z Z (by omega) (by omega) (by omega) Z Z k) ?_))))))))))
 refine yl Z (fun _ _ k => X3 M6 Z Z am a8 (by omega) (by omega) Z k) (yl Z (fun _ aq k => Xh (v := .int .u8 E) Xbt Z ((J0 bb (low0 V aq) (Jj (by omega))) 0 _ Z) Z k) (yl Z (fun _ _ k => Wu (P := Tryz.prog) (k' := .i64) Z (by kernel_rfl) (by kernel_rfl) (H8 (by omega) (by omega)) Z k) (yl Z (fun _ _ k => G1 (c := E * 131) Z Z Z (by omega) (by omega) Z k) (yl Z (fun _ _ k => Xd (v := pt R 0) ab Z k) (yl Z (fun _ _ k => Xs Z Z k) (yl Z (fun _ _ k => Xc (o' := 0) Uc Z Z Z k) (yl Z (fun _ ar k => Xh (v := .slice a bs.length c) Hk Z ((J.blk.grown0 ar).cell Z) Z k) (yl Z (fun _ _ k => Xd (v := vi ((p + 1) - 1)) Z Z k) (yl Z (fun _ _ k => G1 (c := ((p + 1) - 1) * 7) Z Z Z (by omega) (by omega) Z k) (yl Z (fun _ _ k => Yl (c := ((p + 1) - 1) * 7 + 3) Z Z (by omega) (by omega) (by omega) Z k) ?_))))))))))
 refine yl Z (fun _ _ k => Xd (v := pt R 0) ab Z k) (yl Z (fun _ _ k => Xs Z Z k) (yl Z (fun _ _ k => Xc (o' := 0) Uc Z Z Z k) (yl Z (fun _ au k => Xh (v := .slice a bs.length c) Hk Z ((J.blk.grown0 au).cell Z) Z k) (yl Z (fun _ _ k => Y1 (by kernel_rfl) Z Z k) (yl Z (fun _ _ k => Q9 (c := (((p + 1) - 1) * 7 + 3) % (bs.length : Int)) Z Z (by omega) (by omega) (by omega) Z Z k) (yl Z (fun _ _ k => X3 M6 Z Z an a9 (by omega) (by omega) Z k) (yl Z (fun _ av k => Xh (v := .int .u8 G) Xbt Z ((J0 bc (low0 V av) (Jj (by omega))) 0 _ Z) Z k) (yl Z (fun _ _ k => Wu (P := Tryz.prog) (k' := .i64) Z (by kernel_rfl) (by kernel_rfl) (H8 (by omega) (by omega)) Z k) (yl Z (fun _ _ k => G1 (c := G * 1117) Z Z Z (by omega) (by omega) Z k) (yl Z (fun _ _ k => Yl (c := E * 131 + (G * 1117)) Z Z (by omega) (by omega) (by omega) Z k) ?_))))))))))
 refine yl Z (fun _ _ k => Xd (v := vi ((p + 1) - 1)) Z Z k) (yl Z (fun _ _ k => G1 (c := ((p + 1) - 1) * 29) Z Z Z (by omega) (by omega) Z k) (yl Z (fun _ _ k => Yl (c := E * 131 + (G * 1117) + (((p + 1) - 1) * 29)) Z Z (by omega) (by omega) (by omega) Z k) (yl Z (fun _ _ k => Xd (v := vi ((p + 1) - 1)) Z Z k) (yl Z (fun _ _ k => Xd (v := pt R 0) ab Z k) (yl Z (fun _ _ k => Xs Z Z k) (yl Z (fun _ _ k => Xc (o' := 0) Uc Z Z Z k) (yl Z (fun _ aw k => Xh (v := .slice a bs.length c) Hk Z ((J.blk.grown0 aw).cell Z) Z k) (yl Z (fun _ _ k => Y1 (by kernel_rfl) Z Z k) (yl Z (fun _ _ k => K5 (c := ((p + 1) - 1) / (bs.length : Int)) Z Z (by omega) (by omega) (by omega) Z Z k) (yl Z (fun _ _ k => G1 (c := (((p + 1) - 1) / (bs.length : Int)) * 53) Z Z Z (by omega) (by omega) Z k) ?_))))))))))
 exact Y8
 intro c9 af
 refine Yl (c := E * 131 + (G * 1117) + (((p + 1) - 1) * 29) + ((((p + 1) - 1) / (bs.length : Int)) * 53)) Z Z (by omega) (by omega) (by omega) Z (Xe (v := vi (E * 131 + (G * 1117) + (((p + 1) - 1) * 29) + ((((p + 1) - 1) / (bs.length : Int)) * 53))) Z Z (Xb (Xu (Xa (Xd (v := vi (E * 131 + (G * 1117) + (((p + 1) - 1) * 29) + ((((p + 1) - 1) / (bs.length : Int)) * 53))) Z Z (Xd (v := vi (E * 131 + (G * 1117) + (((p + 1) - 1) * 29) + ((((p + 1) - 1) / (bs.length : Int)) * 53))) Z Z (K5 (c := (E * 131 + (G * 1117) + (((p + 1) - 1) * 29) + ((((p + 1) - 1) / (bs.length : Int)) * 53)) / 64) Z Z (by omega) (by omega) (by omega) Z Z ?_)))))))
 have ce := Zy (x := E * 131 + (G * 1117) + (((p + 1) - 1) * 29) + ((((p + 1) - 1) / (bs.length : Int)) * 53)) (y := (E * 131 + (G * 1117) + (((p + 1) - 1) * 29) + ((((p + 1) - 1) / (bs.length : Int)) * 53)) / 64) (by omega) (by omega) (by omega) (by omega)
 refine Ko (u := vi (E * 131 + (G * 1117) + (((p + 1) - 1) * 29) + ((((p + 1) - 1) / (bs.length : Int)) * 53))) (u' := vi ((E * 131 + (G * 1117) + (((p + 1) - 1) * 29) + ((((p + 1) - 1) / (bs.length : Int)) * 53)) / 64)) (v := vi (bits .xor .i64 (E * 131 + (G * 1117) + (((p + 1) - 1) * 29) + ((((p + 1) - 1) / (bs.length : Int)) * 53)) ((E * 131 + (G * 1117) + (((p + 1) - 1) * 29) + ((((p + 1) - 1) / (bs.length : Int)) * 53)) / 64))) Z Z (by rw [binOp_xor, intBits_xor]; rfl) (fun _ _ => eqGuard_at_int ..) Z (Xe (v := vi (bits .xor .i64 (E * 131 + (G * 1117) + (((p + 1) - 1) * 29) + ((((p + 1) - 1) / (bs.length : Int)) * 53)) ((E * 131 + (G * 1117) + (((p + 1) - 1) * 29) + ((((p + 1) - 1) / (bs.length : Int)) * 53)) / 64))) Z Z (Xb (Xa (Xd (v := vi (bits .xor .i64 (E * 131 + (G * 1117) + (((p + 1) - 1) * 29) + ((((p + 1) - 1) / (bs.length : Int)) * 53)) ((E * 131 + (G * 1117) + (((p + 1) - 1) * 29) + ((((p + 1) - 1) / (bs.length : Int)) * 53)) / 64))) Z Z (Xd (v := vi n) aj Z ?_)))))
 have cc := Int.emod_nonneg (bits .xor .i64 (E * 131 + (G * 1117) + (((p + 1) - 1) * 29) + ((((p + 1) - 1) / (bs.length : Int)) * 53)) ((E * 131 + (G * 1117) + (((p + 1) - 1) * 29) + ((((p + 1) - 1) / (bs.length : Int)) * 53)) / 64)) (show n ≠ 0 by omega)
 have cd := Int.emod_lt_of_pos (bits .xor .i64 (E * 131 + (G * 1117) + (((p + 1) - 1) * 29) + ((((p + 1) - 1) / (bs.length : Int)) * 53)) ((E * 131 + (G * 1117) + (((p + 1) - 1) * 29) + ((((p + 1) - 1) / (bs.length : Int)) * 53)) / 64)) (show 0 < n by omega)
 refine Q9 (c := (bits .xor .i64 (E * 131 + (G * 1117) + (((p + 1) - 1) * 29) + ((((p + 1) - 1) / (bs.length : Int)) * 53)) ((E * 131 + (G * 1117) + (((p + 1) - 1) * 29) + ((((p + 1) - 1) / (bs.length : Int)) * 53)) / 64)) % n) Z Z (by omega) (by omega) (by omega) Z Z (Xe (v := vi ((bits .xor .i64 (E * 131 + (G * 1117) + (((p + 1) - 1) * 29) + ((((p + 1) - 1) / (bs.length : Int)) * 53)) ((E * 131 + (G * 1117) + (((p + 1) - 1) * 29) + ((((p + 1) - 1) / (bs.length : Int)) * 53)) / 64)) % n)) Z Z (Xb (Xt ?_)))
 refine ⟨vi ((bits .xor .i64 (E * 131 + (G * 1117) + (((p + 1) - 1) * 29) + ((((p + 1) - 1) / (bs.length : Int)) * 53)) ((E * 131 + (G * 1117) + (((p + 1) - 1) * 29) + ((((p + 1) - 1) / (bs.length : Int)) * 53)) / 64)) % n), Yt Z Z, ((bits .xor .i64 (E * 131 + (G * 1117) + (((p + 1) - 1) * 29) + ((((p + 1) - 1) / (bs.length : Int)) * 53)) ((E * 131 + (G * 1117) + (((p + 1) - 1) * 29) + ((((p + 1) - 1) / (bs.length : Int)) * 53)) / 64)) % n), Z, by omega, by omega, (J.blk.grown0 af), (low0 V af)⟩
theorem Sq (p : Int) (hp : 0 ≤ p ∧ p ≤ 1000000000000) (lo R : Nat) (bs : List Int) (a : Option Addr) (c : Nat) (w : World) (hR : Blk w R 76 #[.slice a bs.length c, vi p]) (hlo : lo ≤ R) (hs : SlLt lo w a 1 (bs.map bcell)) (hb : ∀ b ∈ bs, 0 ≤ b ∧ b ≤ 255) (hn : bs.length ≤ 1048576) : CallsR Tryz.prog 80 #[pt R 0] w (fun v w' => ∃ (r : Rt) (p' : Int), v = .agg #[vi r.th, vi r.ve, vb r.rd, vb r.wr, vb r.wk] ∧ -1 ≤ r.th ∧ r.th ≤ 9 ∧ -1 ≤ r.ve ∧ r.ve ≤ 9 ∧ p ≤ p' ∧ p' ≤ p + 8 ∧ Blk w' R 76 #[.slice a bs.length c, vi p'] ∧ w.grownBy w' (some R)) := by
 refine Xx (n := 49) Tryz.func80 Z Tryz.ntmps80 Z ?_
 have e0 := World.grownBy.refl w (some R)
 have hRlt := hR.lt
 refine Xa (Yf (cs := #[vi 0, vi 0, vb false, vb false, vb false]) K3 Z Z ?_)
 intro gi ib ap
 have fb := Yd ap e0
 have ej := Xo ap (hR).lt
 have ck := low0 e0 ap.grw
 refine Xb (Xq (Xa (Xd (v := pt R 0) Z Z (Xn Qo (Xf Z (Xf Z Xm)) Z (Qb p 6 (by omega) _ R bs _ _ _ (hR.grown0 ap.grw) (by omega) (SlLt.low1 hs ck hlo) (by first | exact hb | exact fun b h => hb b (List.mem_of_mem_take h)) (by first | omega | (rw [List.length_take]; omega))) ?_))))
 rintro _ ic ⟨fa, rfl, fh, fi, dm, bw⟩
 have bv := grown_trans ck bw
 refine X6 (q := decide (fa = 0)) Z Z Z Z (Xb (X0 Z (fun bz => ?_) (fun bz => ?_)))
 have gq := of_decide_eq_true bz
 refine Xa (Yv (ps := []) (v := .agg #[vi 0, vi 0, vb false, vb false, vb false]) X5 (by kernel_rfl) Z (Xy (vs := [vi 0, vi 0, vb false, vb false, vb false]) (cs' := #[vi 0, vi 0, vb false, vb false, vb false]) Y0 Z Z Z (by simp [Value.oneCell']) (ap.blk.gn bw) (Nat.le_of_ble_eq_true Z) Z ?_))
 intro ie bk
 refine Xb (Xt (Yk ?_))
 refine ⟨.agg #[vi 0, vi 0, vb false, vb false, vb false], Jt Z (Yh (vs := [vi 0, vi 0, vb false, vb false, vb false]) Y0 Z Z (bk.blk.rangeL 0 5 Z)), ⟨0, 0, false, false, false⟩, (p + 1), Z, show (-1 : Int) ≤ 0 by omega, show 0 ≤ (9 : Int) by omega, show (-1 : Int) ≤ 0 by omega, show 0 ≤ (9 : Int) by omega, by omega, by omega, (dm.gn bk.grw), (low1 bv bk.grw (by omega))⟩
 have gr := of_decide_eq_false bz
 refine Xz (Xu (Xa (Xd (v := pt R 0) Z Z (Xn Qo (Xf Z (Xf Z Xm)) Z (Qb (p + 1) 8 (by omega) _ R bs _ _ _ dm (by omega) (SlLt.low1 hs bv hlo) (by first | exact hb | exact fun b h => hb b (List.mem_of_mem_take h)) (by first | omega | (rw [List.length_take]; omega))) ?_))))
 rintro _ ig ⟨J, rfl, fj, fk, ea, c8⟩
 have cl := grown_trans bv c8
 refine Yl (c := 1 + J) Z Z (by omega) (by omega) (by omega) Z (Xd (v := pt R 0) Z Z (Xn Qo (Xf Z (Xf Z Xm)) Z (Qb (p + 1 + 1) 3 (by omega) _ R bs _ _ _ ea (by omega) (SlLt.low1 hs cl hlo) (by first | exact hb | exact fun b h => hb b (List.mem_of_mem_take h)) (by first | omega | (rw [List.length_take]; omega))) ?_))
 rintro _ ii ⟨O, rfl, fm, fo, eb, c9⟩
 have cm := grown_trans cl c9
 refine Xd (v := pt R 0) Z Z (Xn Qo (Xf Z (Xf Z Xm)) Z (Qb (p + 1 + 1 + 1) 4 (by omega) _ R bs _ _ _ eb (by omega) (SlLt.low1 hs cm hlo) (by first | exact hb | exact fun b h => hb b (List.mem_of_mem_take h)) (by first | omega | (rw [List.length_take]; omega))) ?_)
 rintro _ ij ⟨G, rfl, fp, fq, ed, da⟩
 have cn := grown_trans cm da
 refine Jm (q := decide (0 < G)) Z Z Z Z (Xd (v := pt R 0) Z Z (Xn Qo (Xf Z (Xf Z Xm)) Z (Qb (p + 1 + 1 + 1 + 1) 2 (by omega) _ R bs _ _ _ ed (by omega) (SlLt.low1 hs cn hlo) (by first | exact hb | exact fun b h => hb b (List.mem_of_mem_take h)) (by first | omega | (rw [List.length_take]; omega))) ?_))
 rintro _ ik ⟨E, rfl, fr, ft, bx, db⟩
 have co := grown_trans cn db
 refine X6 (q := decide (E = 0)) Z Z Z Z (Yv (ps := [(0, vi (1 + J)), (1, vi O), (2, vb (decide (0 < G))), (3, vb (decide (E = 0)))]) (v := .agg #[vi (1 + J), vi O, vb (decide (0 < G)), vb (decide (E = 0)), vb false]) (Xk Z (Xk Z (Xk Z (Xk Z X5)))) (by kernel_rfl) Z (Yf (cs := #[vi 0, vi 0, vb false, vb false, vb false]) K3 Z Z ?_))
 intro gj il ac
 have fc := Yd ac co
 have ek := Xo ac (bx).lt
 have ao := (((((ap.blk.gn bw).gn c8).gn c9).gn da).gn db)
 have dn := Xo ac (ao).lt
 refine Xy (vs := [vi (1 + J), vi O, vb (decide (0 < G)), vb (decide (E = 0)), vb false]) (cs' := #[vi (1 + J), vi O, vb (decide (0 < G)), vb (decide (E = 0)), vb false]) Y0 Z Z Z (by simp [Value.oneCell']) ac.blk (Nat.le_of_ble_eq_true Z) Z ?_
 intro im V
 have bf := low1 (low0 co ac.grw) V.grw (by omega)
 refine Xb (Xq (Xa (Xc (o' := 3) Vd Z Z Z (Xh (v := vb (decide (E = 0))) Jw Z (V.blk.cell Z) Z (Yn (b' := !(decide (E = 0))) Z Z Z (Xb (X0 Z (fun ca => ?_) (fun ca => ?_))))))))
 have ew := Jr ca
 have gt := of_decide_eq_false ew
 refine X2 (Xd (v := pt R 0) Z Z (Xn Qo (Xf Z (Xf Z Xm)) Z (Qb (p + 1 + 1 + 1 + 1 + 1) 2 (by omega) _ R bs _ _ _ ((bx.grown0 ac.grw).gn V.grw) (by omega) (SlLt.low1 hs bf hlo) (by first | exact hb | exact fun b h => hb b (List.mem_of_mem_take h)) (by first | omega | (rw [List.length_take]; omega))) ?_))
 rintro _ io ⟨ab, rfl, fu, fv, ee, au⟩
 refine X6 (q := decide (ab = 0)) Z Z Z Z (Xc (o' := 4) Ve Z Z Z (Yc (v := vb (decide (ab = 0))) (cs' := #[vi (1 + J), vi O, vb (decide (0 < G)), vb (decide (E = 0)), vb (decide (ab = 0))]) Jw Z Z Z (V.blk.gn au) (Nat.le_of_ble_eq_true Z) Z ?_))
 intro ip ad
 have ct := low1 (grown_trans bf au) ad.grw (by omega)
 refine Xb (Xu (Xq (Xa (Xd (v := pt R 0) Z Z (Xn Qo (Xf Z (Xf Z Xm)) Z (Qb (p + 1 + 1 + 1 + 1 + 1 + 1) 40 (by omega) _ R bs _ _ _ (ee.gn ad.grw) (by omega) (SlLt.low1 hs ct hlo) (by first | exact hb | exact fun b h => hb b (List.mem_of_mem_take h)) (by first | omega | (rw [List.length_take]; omega))) ?_)))))
 rintro _ iq ⟨az, rfl, fw, fx, av, ai⟩
 have aq := grown_trans ct ai
 refine Xb (X9 (Xa (X6 (q := decide (az = 0)) Z Z Z Z (Xe (v := vb (decide (az = 0))) Z Z (Xb (X0 Z (fun cc => ?_) (fun cc => ?_)))))))
 have gu := of_decide_eq_true cc
 refine X2 (Xc (o' := 4) Ve Z Z Z (Yc (v := vb true) (cs' := #[vi (1 + J), vi O, vb (decide (0 < G)), vb (decide (E = 0)), vb true]) Jw Z Z Z (ad.blk.gn ai) (Nat.le_of_ble_eq_true Z) Z ?_))
 intro ir a9
 refine Xb (Y3 (Xu (Xa (Xr (vs := [vi (1 + J), vi O, vb (decide (0 < G)), vb (decide (E = 0)), vb true]) Y0 Z Z (a9.blk.rangeL 0 5 Z) Z (Xy (vs := [vi (1 + J), vi O, vb (decide (0 < G)), vb (decide (E = 0)), vb true]) (cs' := #[vi (1 + J), vi O, vb (decide (0 < G)), vb (decide (E = 0)), vb true]) Y0 Z Z Z (by simp [Value.oneCell']) ((((((ao.grown0 ac.grw).gn V.grw).gn au).gn ad.grw).gn ai).gn a9.grw) (Nat.le_of_ble_eq_true Z) Z ?_)))))
 intro it bl
 refine Xb (Xt ?_)
 refine ⟨.agg #[vi (1 + J), vi O, vb (decide (0 < G)), vb (decide (E = 0)), vb true], Jt Z (Yh (vs := [vi (1 + J), vi O, vb (decide (0 < G)), vb (decide (E = 0)), vb true]) Y0 Z Z (bl.blk.rangeL 0 5 Z)), ⟨1 + J, O, decide (0 < G), decide (E = 0), true⟩, (p + 1 + 1 + 1 + 1 + 1 + 1 + 1), Z, show (-1 : Int) ≤ 1 + J by omega, show 1 + J ≤ (9 : Int) by omega, show (-1 : Int) ≤ O by omega, show O ≤ (9 : Int) by omega, by omega, by omega, ((av.gn a9.grw).gn bl.grw), (low1 (low1 aq a9.grw (by omega)) bl.grw (by omega))⟩
 have gv := of_decide_eq_false cc
 refine Xa (X6 (q := decide (az = 1)) Z Z Z Z (Xe (v := vb (decide (az = 1))) Z Z (Xb (X0 Z (fun cd => ?_) (fun cd => ?_)))))
 have gw := of_decide_eq_true cd
 refine X2 (X7 (ps := [(0, vi 0), (1, vi 9), (2, vi (-1))]) (e := 3) (cs := (([0, 9, (-1)] : List Int).flatMap icell).toArray) (Xk Z (Xk Z (Xk Z X5))) (fun _ => by kernel_rfl) Z ?_)
 intro gk iu ae
 have fd := Yd ae aq
 have em := Xo ae (av).lt
 have dy := (((((ao.grown0 ac.grw).gn V.grw).gn au).gn ad.grw).gn ai)
 have dp := Xo ae (dy).lt
 have dz := (ad.blk.gn ai)
 have du := Xo ae (dz).lt
 have cv := low0 aq ae.grw
 refine Xd (v := pt R 0) Z Z (Xn Qo (Xf Z (Xf Z Xm)) Z (Qb (p + 1 + 1 + 1 + 1 + 1 + 1 + 1) 3 (by omega) _ R bs _ _ _ (av.grown0 ae.grw) (by omega) (SlLt.low1 hs cv hlo) (by first | exact hb | exact fun b h => hb b (List.mem_of_mem_take h)) (by first | omega | (rw [List.length_take]; omega))) ?_)
 rintro _ iv ⟨dh, rfl, fy, fz, ef, bg⟩
 refine X4 (o' := (dh).toNat * 1) J4 Z Z (by omega) (by omega) (by omega) Z ?_
 obtain ⟨ak, dc⟩ := Ja (l := ([0, 9, (-1)] : List Int)) (i := (dh).toNat) (lq (dh).toNat 3)
 have d6 := List.mem_of_getElem? dc
 simp only [List.mem_cons, List.not_mem_nil, or_false] at d6
 refine Xh (v := vi ak) X1 Z ((Qs Yq (ae.blk.gn bg) dc) 0 _ Z) Z (Xc (o' := 0) Yo Z Z Z (Yc (v := vi ak) (cs' := #[vi ak, vi O, vb (decide (0 < G)), vb (decide (E = 0)), vb (decide (ab = 0))]) X1 Z Z Z ((dz.grown0 ae.grw).gn bg) (Nat.le_of_ble_eq_true Z) Z ?_))
 intro iw ba
 refine Xb (Y3 (Xu (Xa (Xr (vs := [vi ak, vi O, vb (decide (0 < G)), vb (decide (E = 0)), vb (decide (ab = 0))]) Y0 Z Z (ba.blk.rangeL 0 5 Z) Z (Xy (vs := [vi ak, vi O, vb (decide (0 < G)), vb (decide (E = 0)), vb (decide (ab = 0))]) (cs' := #[vi ak, vi O, vb (decide (0 < G)), vb (decide (E = 0)), vb (decide (ab = 0))]) Y0 Z Z Z (by simp [Value.oneCell']) (((dy.grown0 ae.grw).gn bg).gn ba.grw) (Nat.le_of_ble_eq_true Z) Z ?_)))))
 intro ix bm
 refine Xb (Xt ?_)
 refine ⟨.agg #[vi ak, vi O, vb (decide (0 < G)), vb (decide (E = 0)), vb (decide (ab = 0))], Jt Z (Yh (vs := [vi ak, vi O, vb (decide (0 < G)), vb (decide (E = 0)), vb (decide (ab = 0))]) Y0 Z Z (bm.blk.rangeL 0 5 Z)), ⟨ak, O, decide (0 < G), decide (E = 0), decide (ab = 0)⟩, (p + 1 + 1 + 1 + 1 + 1 + 1 + 1 + 1), Z, show (-1 : Int) ≤ ak by omega, show ak ≤ (9 : Int) by omega, show (-1 : Int) ≤ O by omega, show O ≤ (9 : Int) by omega, by omega, by omega, ((ef.gn ba.grw).gn bm.grw), (low1 (low1 (grown_trans cv bg) ba.grw (by omega)) bm.grw (by omega))⟩
 have gx := of_decide_eq_false cd
 refine Xa (X6 (q := decide (az = 2)) Z Z Z Z (Xe (v := vb (decide (az = 2))) Z Z (Xb (X0 Z (fun ce => ?_) (fun ce => ?_)))))
 have gy := of_decide_eq_true ce
 refine X2 (X7 (ps := [(0, vi (-1)), (1, vi 5), (2, vi 6)]) (e := 3) (cs := (([(-1), 5, 6] : List Int).flatMap icell).toArray) (Xk Z (Xk Z (Xk Z X5))) (fun _ => by kernel_rfl) Z ?_)
 intro gl iy af
 have fe := Yd af aq
 have eo := Xo af (av).lt
 have d0 := (((((ao.grown0 ac.grw).gn V.grw).gn au).gn ad.grw).gn ai)
 have dq := Xo af (d0).lt
 have d1 := (ad.blk.gn ai)
 have dv := Xo af (d1).lt
 have cw := low0 aq af.grw
 refine Xd (v := pt R 0) Z Z (Xn Qo (Xf Z (Xf Z Xm)) Z (Qb (p + 1 + 1 + 1 + 1 + 1 + 1 + 1) 3 (by omega) _ R bs _ _ _ (av.grown0 af.grw) (by omega) (SlLt.low1 hs cw hlo) (by first | exact hb | exact fun b h => hb b (List.mem_of_mem_take h)) (by first | omega | (rw [List.length_take]; omega))) ?_)
 rintro _ iz ⟨di, rfl, f8, f9, eg, bh⟩
 refine X4 (o' := (di).toNat * 1) J4 Z Z (by omega) (by omega) (by omega) Z ?_
 obtain ⟨al, de⟩ := Ja (l := ([(-1), 5, 6] : List Int)) (i := (di).toNat) (lq (di).toNat 3)
 have d7 := List.mem_of_getElem? de
 simp only [List.mem_cons, List.not_mem_nil, or_false] at d7
 refine Xh (v := vi al) X1 Z ((Qs Yq (af.blk.gn bh) de) 0 _ Z) Z (Xc (o' := 1) Kv Z Z Z (Yc (v := vi al) (cs' := #[vi (1 + J), vi al, vb (decide (0 < G)), vb (decide (E = 0)), vb (decide (ab = 0))]) X1 Z Z Z ((d1.grown0 af.grw).gn bh) (Nat.le_of_ble_eq_true Z) Z ?_))
 intro i0 bb
 refine Xb (Y3 (Xu (Xa (Xr (vs := [vi (1 + J), vi al, vb (decide (0 < G)), vb (decide (E = 0)), vb (decide (ab = 0))]) Y0 Z Z (bb.blk.rangeL 0 5 Z) Z (Xy (vs := [vi (1 + J), vi al, vb (decide (0 < G)), vb (decide (E = 0)), vb (decide (ab = 0))]) (cs' := #[vi (1 + J), vi al, vb (decide (0 < G)), vb (decide (E = 0)), vb (decide (ab = 0))]) Y0 Z Z Z (by simp [Value.oneCell']) (((d0.grown0 af.grw).gn bh).gn bb.grw) (Nat.le_of_ble_eq_true Z) Z ?_)))))
 intro i1 bn
 refine Xb (Xt ?_)
 refine ⟨.agg #[vi (1 + J), vi al, vb (decide (0 < G)), vb (decide (E = 0)), vb (decide (ab = 0))], Jt Z (Yh (vs := [vi (1 + J), vi al, vb (decide (0 < G)), vb (decide (E = 0)), vb (decide (ab = 0))]) Y0 Z Z (bn.blk.rangeL 0 5 Z)), ⟨1 + J, al, decide (0 < G), decide (E = 0), decide (ab = 0)⟩, (p + 1 + 1 + 1 + 1 + 1 + 1 + 1 + 1), Z, show (-1 : Int) ≤ 1 + J by omega, show 1 + J ≤ (9 : Int) by omega, show (-1 : Int) ≤ al by omega, show al ≤ (9 : Int) by omega, by omega, by omega, ((eg.gn bb.grw).gn bn.grw), (low1 (low1 (grown_trans cw bh) bb.grw (by omega)) bn.grw (by omega))⟩
 have gz := of_decide_eq_false ce
 refine Xz (Y3 (Xu (Xa (Xr (vs := [vi (1 + J), vi O, vb (decide (0 < G)), vb (decide (E = 0)), vb (decide (ab = 0))]) Y0 Z Z ((ad.blk.gn ai).rangeL 0 5 Z) Z (Xy (vs := [vi (1 + J), vi O, vb (decide (0 < G)), vb (decide (E = 0)), vb (decide (ab = 0))]) (cs' := #[vi (1 + J), vi O, vb (decide (0 < G)), vb (decide (E = 0)), vb (decide (ab = 0))]) Y0 Z Z Z (by simp [Value.oneCell']) (((((ao.grown0 ac.grw).gn V.grw).gn au).gn ad.grw).gn ai) (Nat.le_of_ble_eq_true Z) Z ?_)))))
 intro i2 bp
 refine Xb (Xt ?_)
 refine ⟨.agg #[vi (1 + J), vi O, vb (decide (0 < G)), vb (decide (E = 0)), vb (decide (ab = 0))], Jt Z (Yh (vs := [vi (1 + J), vi O, vb (decide (0 < G)), vb (decide (E = 0)), vb (decide (ab = 0))]) Y0 Z Z (bp.blk.rangeL 0 5 Z)), ⟨1 + J, O, decide (0 < G), decide (E = 0), decide (ab = 0)⟩, (p + 1 + 1 + 1 + 1 + 1 + 1 + 1), Z, show (-1 : Int) ≤ 1 + J by omega, show 1 + J ≤ (9 : Int) by omega, show (-1 : Int) ≤ O by omega, show O ≤ (9 : Int) by omega, by omega, by omega, (av.gn bp.grw), (low1 aq bp.grw (by omega))⟩
 have ez := Q3 ca
 have g0 := of_decide_eq_true ez
 refine Xz (Xu (Xq (Xa (Xd (v := pt R 0) Z Z (Xn Qo (Xf Z (Xf Z Xm)) Z (Qb (p + 1 + 1 + 1 + 1 + 1) 40 (by omega) _ R bs _ _ _ ((bx.grown0 ac.grw).gn V.grw) (by omega) (SlLt.low1 hs bf hlo) (by first | exact hb | exact fun b h => hb b (List.mem_of_mem_take h)) (by first | omega | (rw [List.length_take]; omega))) ?_)))))
 rintro _ i3 ⟨a8, rfl, ga, gb, aw, aj⟩
 have ar := grown_trans bf aj
 refine Xb (X9 (Xa (X6 (q := decide (a8 = 0)) Z Z Z Z (Xe (v := vb (decide (a8 = 0))) Z Z (Xb (X0 Z (fun cf => ?_) (fun cf => ?_)))))))
 have g5 := of_decide_eq_true cf
 refine X2 (Xc (o' := 4) Ve Z Z Z (Yc (v := vb true) (cs' := #[vi (1 + J), vi O, vb (decide (0 < G)), vb (decide (E = 0)), vb true]) Jw Z Z Z (V.blk.gn aj) (Nat.le_of_ble_eq_true Z) Z ?_))
 intro i4 bc
 refine Xb (Y3 (Xu (Xa (Xr (vs := [vi (1 + J), vi O, vb (decide (0 < G)), vb (decide (E = 0)), vb true]) Y0 Z Z (bc.blk.rangeL 0 5 Z) Z (Xy (vs := [vi (1 + J), vi O, vb (decide (0 < G)), vb (decide (E = 0)), vb true]) (cs' := #[vi (1 + J), vi O, vb (decide (0 < G)), vb (decide (E = 0)), vb true]) Y0 Z Z Z (by simp [Value.oneCell']) ((((ao.grown0 ac.grw).gn V.grw).gn aj).gn bc.grw) (Nat.le_of_ble_eq_true Z) Z ?_)))))
 intro i5 bq
 refine Xb (Xt ?_)
 refine ⟨.agg #[vi (1 + J), vi O, vb (decide (0 < G)), vb (decide (E = 0)), vb true], Jt Z (Yh (vs := [vi (1 + J), vi O, vb (decide (0 < G)), vb (decide (E = 0)), vb true]) Y0 Z Z (bq.blk.rangeL 0 5 Z)), ⟨1 + J, O, decide (0 < G), decide (E = 0), true⟩, (p + 1 + 1 + 1 + 1 + 1 + 1), Z, show (-1 : Int) ≤ 1 + J by omega, show 1 + J ≤ (9 : Int) by omega, show (-1 : Int) ≤ O by omega, show O ≤ (9 : Int) by omega, by omega, by omega, ((aw.gn bc.grw).gn bq.grw), (low1 (low1 ar bc.grw (by omega)) bq.grw (by omega))⟩
 have g6 := of_decide_eq_false cf
 refine Xa (X6 (q := decide (a8 = 1)) Z Z Z Z (Xe (v := vb (decide (a8 = 1))) Z Z (Xb (X0 Z (fun cg => ?_) (fun cg => ?_)))))
 have g7 := of_decide_eq_true cg
 refine X2 (X7 (ps := [(0, vi 0), (1, vi 9), (2, vi (-1))]) (e := 3) (cs := (([0, 9, (-1)] : List Int).flatMap icell).toArray) (Xk Z (Xk Z (Xk Z X5))) (fun _ => by kernel_rfl) Z ?_)
 intro gm i6 ag
 have ff := Yd ag ar
 have ep := Xo ag (aw).lt
 have d2 := (((ao.grown0 ac.grw).gn V.grw).gn aj)
 have dr := Xo ag (d2).lt
 have d3 := (V.blk.gn aj)
 have dw := Xo ag (d3).lt
 have cy := low0 ar ag.grw
 refine Xd (v := pt R 0) Z Z (Xn Qo (Xf Z (Xf Z Xm)) Z (Qb (p + 1 + 1 + 1 + 1 + 1 + 1) 3 (by omega) _ R bs _ _ _ (aw.grown0 ag.grw) (by omega) (SlLt.low1 hs cy hlo) (by first | exact hb | exact fun b h => hb b (List.mem_of_mem_take h)) (by first | omega | (rw [List.length_take]; omega))) ?_)
 rintro _ i7 ⟨dk, rfl, gc, gf, eh, bi⟩
 refine X4 (o' := (dk).toNat * 1) J4 Z Z (by omega) (by omega) (by omega) Z ?_
 obtain ⟨am, df⟩ := Ja (l := ([0, 9, (-1)] : List Int)) (i := (dk).toNat) (lq (dk).toNat 3)
 have d8 := List.mem_of_getElem? df
 simp only [List.mem_cons, List.not_mem_nil, or_false] at d8
 refine Xh (v := vi am) X1 Z ((Qs Yq (ag.blk.gn bi) df) 0 _ Z) Z (Xc (o' := 0) Yo Z Z Z (Yc (v := vi am) (cs' := #[vi am, vi O, vb (decide (0 < G)), vb (decide (E = 0)), vb false]) X1 Z Z Z ((d3.grown0 ag.grw).gn bi) (Nat.le_of_ble_eq_true Z) Z ?_))
 intro i8 bd
 refine Xb (Y3 (Xu (Xa (Xr (vs := [vi am, vi O, vb (decide (0 < G)), vb (decide (E = 0)), vb false]) Y0 Z Z (bd.blk.rangeL 0 5 Z) Z (Xy (vs := [vi am, vi O, vb (decide (0 < G)), vb (decide (E = 0)), vb false]) (cs' := #[vi am, vi O, vb (decide (0 < G)), vb (decide (E = 0)), vb false]) Y0 Z Z Z (by simp [Value.oneCell']) (((d2.grown0 ag.grw).gn bi).gn bd.grw) (Nat.le_of_ble_eq_true Z) Z ?_)))))
 intro i9 br
 refine Xb (Xt ?_)
 refine ⟨.agg #[vi am, vi O, vb (decide (0 < G)), vb (decide (E = 0)), vb false], Jt Z (Yh (vs := [vi am, vi O, vb (decide (0 < G)), vb (decide (E = 0)), vb false]) Y0 Z Z (br.blk.rangeL 0 5 Z)), ⟨am, O, decide (0 < G), decide (E = 0), false⟩, (p + 1 + 1 + 1 + 1 + 1 + 1 + 1), Z, show (-1 : Int) ≤ am by omega, show am ≤ (9 : Int) by omega, show (-1 : Int) ≤ O by omega, show O ≤ (9 : Int) by omega, by omega, by omega, ((eh.gn bd.grw).gn br.grw), (low1 (low1 (grown_trans cy bi) bd.grw (by omega)) br.grw (by omega))⟩
 have g8 := of_decide_eq_false cg
 refine Xa (X6 (q := decide (a8 = 2)) Z Z Z Z (Xe (v := vb (decide (a8 = 2))) Z Z (Xb (X0 Z (fun cj => ?_) (fun cj => ?_)))))
 have g9 := of_decide_eq_true cj
 refine X2 (X7 (ps := [(0, vi (-1)), (1, vi 5), (2, vi 6)]) (e := 3) (cs := (([(-1), 5, 6] : List Int).flatMap icell).toArray) (Xk Z (Xk Z (Xk Z X5))) (fun _ => by kernel_rfl) Z ?_)
 intro gp ja ah
 have fg := Yd ah ar
 have eu := Xo ah (aw).lt
 have d4 := (((ao.grown0 ac.grw).gn V.grw).gn aj)
 have dt := Xo ah (d4).lt
 have d5 := (V.blk.gn aj)
 have dx := Xo ah (d5).lt
 have cz := low0 ar ah.grw
 refine Xd (v := pt R 0) Z Z (Xn Qo (Xf Z (Xf Z Xm)) Z (Qb (p + 1 + 1 + 1 + 1 + 1 + 1) 3 (by omega) _ R bs _ _ _ (aw.grown0 ah.grw) (by omega) (SlLt.low1 hs cz hlo) (by first | exact hb | exact fun b h => hb b (List.mem_of_mem_take h)) (by first | omega | (rw [List.length_take]; omega))) ?_)
 rintro _ jb ⟨dl, rfl, gg, gh, ei, bj⟩
 refine X4 (o' := (dl).toNat * 1) J4 Z Z (by omega) (by omega) (by omega) Z ?_
 obtain ⟨an, dg⟩ := Ja (l := ([(-1), 5, 6] : List Int)) (i := (dl).toNat) (lq (dl).toNat 3)
 have d9 := List.mem_of_getElem? dg
 simp only [List.mem_cons, List.not_mem_nil, or_false] at d9
 refine Xh (v := vi an) X1 Z ((Qs Yq (ah.blk.gn bj) dg) 0 _ Z) Z (Xc (o' := 1) Kv Z Z Z (Yc (v := vi an) (cs' := #[vi (1 + J), vi an, vb (decide (0 < G)), vb (decide (E = 0)), vb false]) X1 Z Z Z ((d5.grown0 ah.grw).gn bj) (Nat.le_of_ble_eq_true Z) Z ?_))
 intro jc be
 refine Xb (Y3 (Xu (Xa (Xr (vs := [vi (1 + J), vi an, vb (decide (0 < G)), vb (decide (E = 0)), vb false]) Y0 Z Z (be.blk.rangeL 0 5 Z) Z (Xy (vs := [vi (1 + J), vi an, vb (decide (0 < G)), vb (decide (E = 0)), vb false]) (cs' := #[vi (1 + J), vi an, vb (decide (0 < G)), vb (decide (E = 0)), vb false]) Y0 Z Z Z (by simp [Value.oneCell']) (((d4.grown0 ah.grw).gn bj).gn be.grw) (Nat.le_of_ble_eq_true Z) Z ?_)))))
 intro jd bt
 refine Xb (Xt ?_)
 refine ⟨.agg #[vi (1 + J), vi an, vb (decide (0 < G)), vb (decide (E = 0)), vb false], Jt Z (Yh (vs := [vi (1 + J), vi an, vb (decide (0 < G)), vb (decide (E = 0)), vb false]) Y0 Z Z (bt.blk.rangeL 0 5 Z)), ⟨1 + J, an, decide (0 < G), decide (E = 0), false⟩, (p + 1 + 1 + 1 + 1 + 1 + 1 + 1), Z, show (-1 : Int) ≤ 1 + J by omega, show 1 + J ≤ (9 : Int) by omega, show (-1 : Int) ≤ an by omega, show an ≤ (9 : Int) by omega, by omega, by omega, ((ei.gn be.grw).gn bt.grw), (low1 (low1 (grown_trans cz bj) be.grw (by omega)) bt.grw (by omega))⟩
 have ia := of_decide_eq_false cj
 refine Xz (Y3 (Xu (Xa (Xr (vs := [vi (1 + J), vi O, vb (decide (0 < G)), vb (decide (E = 0)), vb false]) Y0 Z Z ((V.blk.gn aj).rangeL 0 5 Z) Z (Xy (vs := [vi (1 + J), vi O, vb (decide (0 < G)), vb (decide (E = 0)), vb false]) (cs' := #[vi (1 + J), vi O, vb (decide (0 < G)), vb (decide (E = 0)), vb false]) Y0 Z Z Z (by simp [Value.oneCell']) (((ao.grown0 ac.grw).gn V.grw).gn aj) (Nat.le_of_ble_eq_true Z) Z ?_)))))
 intro je bu
 refine Xb (Xt ?_)
 refine ⟨.agg #[vi (1 + J), vi O, vb (decide (0 < G)), vb (decide (E = 0)), vb false], Jt Z (Yh (vs := [vi (1 + J), vi O, vb (decide (0 < G)), vb (decide (E = 0)), vb false]) Y0 Z Z (bu.blk.rangeL 0 5 Z)), ⟨1 + J, O, decide (0 < G), decide (E = 0), false⟩, (p + 1 + 1 + 1 + 1 + 1 + 1), Z, show (-1 : Int) ≤ 1 + J by omega, show 1 + J ≤ (9 : Int) by omega, show (-1 : Int) ≤ O by omega, show O ≤ (9 : Int) by omega, by omega, by omega, (aw.gn bu.grw), (low1 ar bu.grw (by omega))⟩
theorem Ij (bs : List Int) (a : Option Addr) (c : Nat) (w : World) (hn : bs.length ≤ 1048576) (hc : bs.length ≤ c) : CallsR Tryz.prog 25 #[.slice a bs.length c] w (fun v w' => ∃ R : Nat, v = pt R 0 ∧ w.heap.size ≤ R ∧ Blk w' R 76 #[.slice a (bs.take 2000).length c, vi 0] ∧ w.grownBy w' none) := by
 refine Xx (n := 11) Tryz.func25 Z Tryz.ntmps25 Z ?_
 have ab := World.grownBy.refl w none
 refine Xa (Xe (v := .pointer none) Z Z (Xb (Xq (Xa (Xd (v := .slice a bs.length c) Z Z (Y1 (by kernel_rfl) Z Z (Jm (q := decide (2000 < (bs.length : Int))) Z Z Z Z (Xb (X0 Z (fun V => ?_) (fun V => ?_))))))))))
 have ae := of_decide_eq_true V
 refine X2 (Xd (v := .slice a bs.length c) Z Z (Zv (e := 5) (sz := 1) (h := 2000) (by kernel_rfl) (by kernel_rfl) Z Z (by omega) Z (Xe (v := .slice a 2000 c) Z Z (Xb (Xu (Xa (Xd (v := .slice a 2000 c) Z Z (Yv (ps := [(0, .slice a 2000 c)]) (v := .agg #[.slice a 2000 c, vi 0]) (Xk Z X5) (by kernel_rfl) Z (Y7 (v := .agg #[.slice a 2000 c, vi 0]) (cs := #[.slice a 2000 c, vi 0]) Z Z Z ?_)))))))))
 intro J ag E
 have ac := Yd E ab
 refine Xe (v := pt J 0) Z Z (Xb (Xt ?_))
 have hlen : 2000 = (bs.take 2000).length := by rw [List.length_take]; omega
 have kk := E.blk
 rw [hlen] at kk
 refine ⟨pt J 0, Yt Z Z, J, Z, ac, kk, (low0 ab E.grw)⟩
 have af := of_decide_eq_false V
 refine Xz (Xu (Xa (Xd (v := .slice a bs.length c) Z Z (Yv (ps := [(0, .slice a bs.length c)]) (v := .agg #[.slice a bs.length c, vi 0]) (Xk Z X5) (by kernel_rfl) Z (Y7 (v := .agg #[.slice a bs.length c, vi 0]) (cs := #[.slice a bs.length c, vi 0]) Z Z Z ?_)))))
 intro O ah G
 have ad := Yd G ab
 refine Xe (v := pt O 0) Z Z (Xb (Xt ?_))
 have hlen : bs.length = (bs.take 2000).length := by rw [List.length_take]; omega
 have kk := G.blk
 rw [hlen] at kk
 refine ⟨pt O 0, Yt Z Z, O, Z, ad, kk, (low0 ab G.grw)⟩
end Go.Proofs.YtlhhijnmacogcaaGreatDoor
end
section
namespace Go.Dw
def thA (t : Th) : Bool := (((!inR t.kind 1 5) || (!labelOk t.lab)) || (!inR t.ve 0 5)) || (decide (3 < (t.queue.length : Int)))
def thB (t : Th) : Bool := ((!inR t.num (if t.kind = 3 then (-4) else 0) 99) || ((!(decide (t.num = 0))) && ((decide (t.kind = 2)) || (decide (t.kind = 4))))) || ((!(decide (t.ve = 0))) && ((decide (t.kind = 3)) || (decide (t.kind = 5))))
def thD (t : Th) : Bool := (((decide (t.kind = 2)) || (decide (t.kind = 3))) && (!(decide ((t.slots.length : Int) = 4)))) || ((!((decide (t.kind = 2)) || (decide (t.kind = 3)))) && (!(decide ((t.slots.length : Int) = 0))))
def thE (t : Th) : Bool := ((decide (t.kind = 4)) || (decide ((t.queue.length : Int) = 0))) && (((decide (t.kind = 5)) && inR t.to 1 8) || ((!(decide (t.kind = 5))) && (decide (t.to = 0))))
theorem Va (t : Th) : thingOk t = (!thA t && !thB t && t.queue.all numQ && t.slots.all rightOk && !thD t && thE t) := by
  have hl : (t.queue.length : Int) = 0 → t.queue.all numQ = true := fun h => by
    have : t.queue = [] := List.eq_nil_of_length_eq_zero (by omega)
    simp [this]
  have hr : (t.slots.length : Int) = 0 → t.slots.all rightOk = true := fun h => by
    have : t.slots = [] := List.eq_nil_of_length_eq_zero (by omega)
    simp [this]
  obtain ⟨k, l, ve, num, slots, queue, to⟩ := t
  simp only at hl hr
  unfold thingOk thA thB thD thE versOk numOk slotsOk queueOk targetOk inR
  simp only
  generalize labelOk l = L
  generalize slots.all rightOk = R at *
  generalize queue.all numQ = Q at *
  generalize queue.length = ql at *
  generalize slots.length = sl at *
  by_cases h1 : k = 1
  · subst h1
    rw [Bool.eq_iff_iff]
    cases L <;> cases R <;> cases Q <;> simp at hl hr ⊢ <;> omega
  by_cases h2 : k = 2
  · subst h2
    rw [Bool.eq_iff_iff]
    cases L <;> cases R <;> cases Q <;> simp at hl hr ⊢ <;> omega
  by_cases h3 : k = 3
  · subst h3
    rw [Bool.eq_iff_iff]
    cases L <;> cases R <;> cases Q <;> simp at hl hr ⊢ <;> omega
  by_cases h4 : k = 4
  · subst h4
    rw [Bool.eq_iff_iff]
    cases L <;> cases R <;> cases Q <;> simp at hl hr ⊢ <;> omega
  by_cases h5 : k = 5
  · subst h5
    rw [Bool.eq_iff_iff]
    cases L <;> cases R <;> cases Q <;> simp at hl hr ⊢ <;> omega
  have h6 : (decide (1 ≤ k) && decide (k ≤ 5)) = false := by simp; omega
  simp [h6]
theorem Xdp {t : Th} (h : thA t = true) : false = thingOk t := by rw [Va, h]; rfl
theorem Xdq {t : Th} (h : thB t = true) : false = thingOk t := by rw [Va, h]; simp
theorem Xdr {t : Th} (h : thD t = true) : false = thingOk t := by rw [Va, h]; simp
theorem Xdt {t : Th} {k : Nat} {x : Int} (hx : t.queue[k]? = some x) (h : inR x 0 99 = false) : false = thingOk t := by
  rw [Va, Kp (p := numQ) hx h]; simp
theorem Xdu {t : Th} {k : Nat} {x : Rt} (hx : t.slots[k]? = some x) (h : rightOk x = false) : false = thingOk t := by
  rw [Va, Kp (p := rightOk) hx h]; simp
theorem Xds {t : Th} (ha : thA t = false) (hb : thB t = false) (hq : t.queue.all numQ = true) (hr : t.slots.all rightOk = true) (hd : thD t = false) : thE t = thingOk t := by
  rw [Va, ha, hb, hq, hr, hd]; rfl
def Th.zero : Th := ⟨0, ⟨0, 0⟩, 0, 0, [], [], 0⟩
def has4 (k : Int) : Bool := decide (k = 2) || decide (k = 3)
def zeros4 : List Rt := [Rt.zero, Rt.zero, Rt.zero, Rt.zero]
def newTh (k : Int) (l : Lab) (to : Int) : Th := ⟨k, l, 0, 0, if has4 k = true then zeros4 else [], [], to⟩
def newOk (k : Int) (l : Lab) (to : Int) : Bool := thingOk (newTh k l to)
theorem Ud {k to : Int} {l : Lab} (h : has4 k = true) : newOk k l to = thingOk ⟨k, l, 0, 0, zeros4, [], to⟩ := by unfold newOk newTh; rw [if_pos h]
theorem K4 {k to : Int} {l : Lab} (h : has4 k = false) : newOk k l to = thingOk ⟨k, l, 0, 0, [], [], to⟩ := by unfold newOk newTh; rw [if_neg (by rw [h]; exact Bool.false_ne_true)]
theorem Xb8 {a b : Th} (h1 : a.kind = b.kind) (h2 : a.lab = b.lab) (h3 : a.ve = b.ve) (h4 : a.num = b.num) (h5 : a.slots = b.slots) (h6 : a.queue = b.queue) (h7 : a.to = b.to) : a = b := by
  obtain ⟨a1, a2, a3, a4, a5, a6, a7⟩ := a
  obtain ⟨b1, b2, b3, b4, b5, b6, b7⟩ := b
  simp only at h1 h2 h3 h4 h5 h6 h7
  subst h1 h2 h3 h4 h5 h6 h7
  rfl
end Go.Dw
end
section
namespace Go.Proofs.YtlhhijnmacogcaaGreatDoor
open Go.RowKit Go.Dw
set_option maxRecDepth 100000
set_option maxHeartbeats 4000000
set_option linter.unusedSimpArgs false
set_option linter.unusedVariables false
theorem Mw : arrTy Tryz.prog 72 = some (4, 33, 5) := by kernel_rfl
theorem J9 : elemSz Tryz.prog 36 = some 5 := by kernel_rfl
theorem Qd : fieldOff Tryz.prog 39 0 = some 0 := by kernel_rfl
theorem Ki : fieldOff Tryz.prog 39 1 = some 1 := by kernel_rfl
theorem Qz : fieldOff Tryz.prog 39 2 = some 3 := by kernel_rfl
theorem Qw : fieldOff Tryz.prog 39 3 = some 4 := by kernel_rfl
theorem Qj : fieldOff Tryz.prog 39 4 = some 5 := by kernel_rfl
theorem Qq : fieldOff Tryz.prog 39 5 = some 6 := by kernel_rfl
theorem J5 : fieldOff Tryz.prog 39 6 = some 7 := by kernel_rfl
theorem Tf : goFn Tryz.prog 41 = true := by kernel_rfl
theorem Vy : goFn Tryz.prog 62 = true := by kernel_rfl
theorem Xcv : goFn Tryz.prog 74 = true := by kernel_rfl
theorem Xcw : goFn Tryz.prog 75 = true := by kernel_rfl
theorem Xcx : goFn Tryz.prog 76 = true := by kernel_rfl
theorem Xcy : goFn Tryz.prog 77 = true := by kernel_rfl
theorem Xcz : goFn Tryz.prog 78 = true := by kernel_rfl
theorem Xam : goFn Tryz.prog 81 = true := by kernel_rfl
theorem Xc3 : goFn Tryz.prog 84 = true := by kernel_rfl
theorem Lb : goFn Tryz.prog 85 = true := by kernel_rfl
theorem Jd : oneTy Tryz.prog 36 = true := by kernel_rfl
theorem Ju : oneTy Tryz.prog 37 = true := by kernel_rfl
theorem Ys : rowTy Tryz.prog 39 = some 8 := by kernel_rfl
theorem Xdm : rowTy Tryz.prog 72 = some 20 := by kernel_rfl
theorem Ol (m : MTh) (w : World) : CallsR Tryz.prog 74 #[.agg #[vi m.t.kind, vi m.t.lab.s, vi m.t.lab.v, vi m.t.ve, vi m.t.num, .slice m.sa m.t.slots.length m.sc, .slice m.qa m.t.queue.length m.qc, vi m.t.to]] w (fun v w' => v = vb (versOk m.t) ∧ w.grownBy w' none) := by
 refine Xx (n := 15) Tryz.func74 Z Tryz.ntmps74 Z ?_
 have ak := World.grownBy.refl w none
 refine Xa (Y7 (v := .agg #[vi m.t.kind, vi m.t.lab.s, vi m.t.lab.v, vi m.t.ve, vi m.t.num, .slice m.sa m.t.slots.length m.sc, .slice m.qa m.t.queue.length m.qc, vi m.t.to]) (cs := #[vi m.t.kind, vi m.t.lab.s, vi m.t.lab.v, vi m.t.ve, vi m.t.num, .slice m.sa m.t.slots.length m.sc, .slice m.qa m.t.queue.length m.qc, vi m.t.to]) Z Z Z ?_)
 intro am an E
 have al := Yd E ak
 have O := low0 ak E.grw
 refine Xe (v := vb false) Z Z (Xb (Xq (Xa (Xc (o' := 0) Qd Z Z Z (Xh (v := vi m.t.kind) X1 Z (E.blk.cell Z) Z (Xb (X9 (Xq (Xa (X6 (q := decide (m.t.kind = 1)) Z Z Z Z (Xe (v := vb (decide (m.t.kind = 1))) Z Z (Xb ?_))))))))))))
 refine X0 Z (fun V => ?_) (fun V => ?_)
 have ac := of_decide_eq_true V
 refine Xz (Xu (Qa Z V (Xa (Xc (o' := 3) Qz Z Z Z (Xh (v := vi m.t.ve) X1 Z (E.blk.cell Z) Z (Xn Vy (Xf Z (Xf Z (Xf Z Xm))) Z (Jv m.t.ve 0 5 _) ?_))))))
 rintro _ ao ⟨rfl, ah⟩
 refine Xe (v := vb (inR m.t.ve 0 5)) Z Z (Xb (Xt (Qn (Yk (⟨vb (inR m.t.ve 0 5), Yt Z Z, ?_, (low0 O ah)⟩)))))
 · first | (simp [versOk, ac]; done) | (simp [versOk, ac]; omega) | (simp [versOk, ac]; intros; omega)
 have G := of_decide_eq_false V
 refine Xa (X6 (q := decide (m.t.kind = 2)) Z Z Z Z (Xe (v := vb (decide (m.t.kind = 2))) Z Z (Xb (X0 Z (fun ab => ?_) (fun ab => ?_)))))
 have ad := of_decide_eq_true ab
 refine Xz (Xu (Qa Z ab (Xa (Xc (o' := 3) Qz Z Z Z (Xh (v := vi m.t.ve) X1 Z (E.blk.cell Z) Z (Xn Vy (Xf Z (Xf Z (Xf Z Xm))) Z (Jv m.t.ve 0 5 _) ?_))))))
 rintro _ ap ⟨rfl, ai⟩
 refine Xe (v := vb (inR m.t.ve 0 5)) Z Z (Xb (Xt (Qn (Yk (⟨vb (inR m.t.ve 0 5), Yt Z Z, ?_, (low0 O ai)⟩)))))
 · first | (simp [versOk, G, ad]; done) | (simp [versOk, G, ad]; omega) | (simp [versOk, G, ad]; intros; omega)
 have J := of_decide_eq_false ab
 refine X2 (X6 (q := decide (m.t.kind = 4)) Z Z Z Z (Xe (v := vb (decide (m.t.kind = 4))) Z Z (Xb (Xu (X0 Z (fun ae => ?_) (fun ae => ?_))))))
 have af := of_decide_eq_true ae
 refine Xa (Xc (o' := 3) Qz Z Z Z (Xh (v := vi m.t.ve) X1 Z (E.blk.cell Z) Z (Xn Vy (Xf Z (Xf Z (Xf Z Xm))) Z (Jv m.t.ve 0 5 _) ?_)))
 rintro _ aq ⟨rfl, aj⟩
 refine Xe (v := vb (inR m.t.ve 0 5)) Z Z (Xb (Xt (Qn (Yk (⟨vb (inR m.t.ve 0 5), Yt Z Z, ?_, (low0 O aj)⟩)))))
 · first | (simp [versOk, G, J, af]; done) | (simp [versOk, G, J, af]; omega) | (simp [versOk, G, J, af]; intros; omega)
 have ag := of_decide_eq_false ae
 refine Xz (Y3 (Xu (Xa (Xc (o' := 3) Qz Z Z Z (Xh (v := vi m.t.ve) X1 Z (E.blk.cell Z) Z (X6 (q := decide (m.t.ve = 0)) Z Z Z Z (Xe (v := vb (decide (m.t.ve = 0))) Z Z (Xb (Xt (⟨vb (decide (m.t.ve = 0)), Yt Z Z, ?_, O⟩))))))))))
 · first | (simp [versOk, G, J, ag]; done) | (simp [versOk, G, J, ag]; omega) | (simp [versOk, G, J, ag]; intros; omega)
theorem Zf (m : MTh) (w : World) : CallsR Tryz.prog 75 #[.agg #[vi m.t.kind, vi m.t.lab.s, vi m.t.lab.v, vi m.t.ve, vi m.t.num, .slice m.sa m.t.slots.length m.sc, .slice m.qa m.t.queue.length m.qc, vi m.t.to]] w (fun v w' => v = vb (numOk m.t) ∧ w.grownBy w' none) := by
 refine Xx (n := 19) Tryz.func75 Z Tryz.ntmps75 Z ?_
 have ak := World.grownBy.refl w none
 refine Xa (Y7 (v := .agg #[vi m.t.kind, vi m.t.lab.s, vi m.t.lab.v, vi m.t.ve, vi m.t.num, .slice m.sa m.t.slots.length m.sc, .slice m.qa m.t.queue.length m.qc, vi m.t.to]) (cs := #[vi m.t.kind, vi m.t.lab.s, vi m.t.lab.v, vi m.t.ve, vi m.t.num, .slice m.sa m.t.slots.length m.sc, .slice m.qa m.t.queue.length m.qc, vi m.t.to]) Z Z Z ?_)
 intro am an E
 have al := Yd E ak
 have O := low0 ak E.grw
 refine Xe (v := vb false) Z Z (Xb (Xq (Xa (Xc (o' := 0) Qd Z Z Z (Xh (v := vi m.t.kind) X1 Z (E.blk.cell Z) Z (Xb (X9 (Xq (Xa (X6 (q := decide (m.t.kind = 1)) Z Z Z Z (Xe (v := vb (decide (m.t.kind = 1))) Z Z (Xb ?_))))))))))))
 refine X0 Z (fun V => ?_) (fun V => ?_)
 have ab := of_decide_eq_true V
 refine Xz (Xu (Qa Z V (Xa (Xc (o' := 4) Qw Z Z Z (Xh (v := vi m.t.num) X1 Z (E.blk.cell Z) Z (Xn Vy (Xf Z (Xf Z (Xf Z Xm))) Z (Jv m.t.num 0 99 _) ?_))))))
 rintro _ ao ⟨rfl, ah⟩
 refine Xe (v := vb (inR m.t.num 0 99)) Z Z (Xb (Xt (Qn (Yk (⟨vb (inR m.t.num 0 99), Yt Z Z, ?_, (low0 O ah)⟩)))))
 · first | (simp [numOk, ab]; done) | (simp [numOk, ab]; omega) | (simp [numOk, ab]; intros; omega)
 have G := of_decide_eq_false V
 refine X2 (X6 (q := decide (m.t.kind = 5)) Z Z Z Z (Xe (v := vb (decide (m.t.kind = 5))) Z Z (Xb (Xu (X0 Z (fun ac => ?_) (fun ac => ?_))))))
 have ad := of_decide_eq_true ac
 refine Xa (Xc (o' := 4) Qw Z Z Z (Xh (v := vi m.t.num) X1 Z (E.blk.cell Z) Z (Xn Vy (Xf Z (Xf Z (Xf Z Xm))) Z (Jv m.t.num 0 99 _) ?_)))
 rintro _ ap ⟨rfl, ai⟩
 refine Xe (v := vb (inR m.t.num 0 99)) Z Z (Xb (Xt (Qn (Yk (⟨vb (inR m.t.num 0 99), Yt Z Z, ?_, (low0 O ai)⟩)))))
 · first | (simp [numOk, G, ad]; done) | (simp [numOk, G, ad]; omega) | (simp [numOk, G, ad]; intros; omega)
 have J := of_decide_eq_false ac
 refine Xa (X6 (q := decide (m.t.kind = 3)) Z Z Z Z (Xe (v := vb (decide (m.t.kind = 3))) Z Z (Xb (X0 Z (fun ae => ?_) (fun ae => ?_)))))
 have af := of_decide_eq_true ae
 refine Xa (Xc (o' := 4) Qw Z Z Z (Xh (v := vi m.t.num) X1 Z (E.blk.cell Z) Z (Xn Vy (Xf Z (Xf Z (Xf Z Xm))) Z (Jv m.t.num (-4) 99 _) ?_)))
 rintro _ aq ⟨rfl, aj⟩
 refine Xe (v := vb (inR m.t.num (-4) 99)) Z Z (Xb (Xt (Qn (Yk (⟨vb (inR m.t.num (-4) 99), Yt Z Z, ?_, (low0 O aj)⟩)))))
 · first | (simp [numOk, G, J, af]; done) | (simp [numOk, G, J, af]; omega) | (simp [numOk, G, J, af]; intros; omega)
 have ag := of_decide_eq_false ae
 refine Xz (Y3 (Xu (Xa (Xc (o' := 4) Qw Z Z Z (Xh (v := vi m.t.num) X1 Z (E.blk.cell Z) Z (X6 (q := decide (m.t.num = 0)) Z Z Z Z (Xe (v := vb (decide (m.t.num = 0))) Z Z (Xb (Xt (⟨vb (decide (m.t.num = 0)), Yt Z Z, ?_, O⟩))))))))))
 · first | (simp [numOk, G, J, ag]; done) | (simp [numOk, G, J, ag]; omega) | (simp [numOk, G, J, ag]; intros; omega)
theorem S2 (m : MTh) (w : World) : CallsR Tryz.prog 78 #[.agg #[vi m.t.kind, vi m.t.lab.s, vi m.t.lab.v, vi m.t.ve, vi m.t.num, .slice m.sa m.t.slots.length m.sc, .slice m.qa m.t.queue.length m.qc, vi m.t.to]] w (fun v w' => v = vb (targetOk m.t) ∧ w.grownBy w' none) := by
 refine Xx (n := 12) Tryz.func78 Z Tryz.ntmps78 Z ?_
 have ac := World.grownBy.refl w none
 refine Xa (Y7 (v := .agg #[vi m.t.kind, vi m.t.lab.s, vi m.t.lab.v, vi m.t.ve, vi m.t.num, .slice m.sa m.t.slots.length m.sc, .slice m.qa m.t.queue.length m.qc, vi m.t.to]) (cs := #[vi m.t.kind, vi m.t.lab.s, vi m.t.lab.v, vi m.t.ve, vi m.t.num, .slice m.sa m.t.slots.length m.sc, .slice m.qa m.t.queue.length m.qc, vi m.t.to]) Z Z Z ?_)
 intro ae af E
 have ad := Yd E ac
 have V := low0 ac E.grw
 refine Xe (v := vb false) Z Z (Xb (Xq (Xa (Xc (o' := 0) Qd Z Z Z (Xh (v := vi m.t.kind) X1 Z (E.blk.cell Z) Z (X6 (q := decide (m.t.kind = 5)) Z Z Z Z (Xb (X0 Z (fun G => ?_) (fun G => ?_)))))))))
 have J := of_decide_eq_true G
 refine Xa (Xc (o' := 7) J5 Z Z Z (Xh (v := vi m.t.to) X1 Z (E.blk.cell Z) Z (Xn Vy (Xf Z (Xf Z (Xf Z Xm))) Z (Jv m.t.to 1 8 _) ?_)))
 rintro _ ag ⟨rfl, ab⟩
 refine Xe (v := vb (inR m.t.to 1 8)) Z Z (Xb (Xt (Yk (⟨vb (inR m.t.to 1 8), Yt Z Z, ?_, (low0 V ab)⟩))))
 · first | (simp [targetOk, J]; done) | (simp [targetOk, J]; omega) | (simp [targetOk, J]; intros; omega)
 have O := of_decide_eq_false G
 refine Xz (Xu (Xa (Xc (o' := 7) J5 Z Z Z (Xh (v := vi m.t.to) X1 Z (E.blk.cell Z) Z (X6 (q := decide (m.t.to = 0)) Z Z Z Z (Xe (v := vb (decide (m.t.to = 0))) Z Z (Xb (Xt (⟨vb (decide (m.t.to = 0)), Yt Z Z, ?_, V⟩)))))))))
 · first | (simp [targetOk, O]; done) | (simp [targetOk, O]; omega) | (simp [targetOk, O]; intros; omega)
theorem T8 (m : MTh) (w : World) (hs : SlAt w m.sa 5 (m.t.slots.map Rt.cells)) (hq : SlAt w m.qa 1 (m.t.queue.map icell)) (hsl : m.t.slots.length ≤ 9223372036854775806) (hql : m.t.queue.length ≤ 9223372036854775806) : CallsR Tryz.prog 77 #[.agg #[vi m.t.kind, vi m.t.lab.s, vi m.t.lab.v, vi m.t.ve, vi m.t.num, .slice m.sa m.t.slots.length m.sc, .slice m.qa m.t.queue.length m.qc, vi m.t.to]] w (fun v w' => v = vb (queueOk m.t) ∧ w.grownBy w' none) := by
 refine Xx (n := 27) Tryz.func77 Z Tryz.ntmps77 Z ?_
 have a9 := World.grownBy.refl w none
 refine Xa (Y7 (v := .agg #[vi m.t.kind, vi m.t.lab.s, vi m.t.lab.v, vi m.t.ve, vi m.t.num, .slice m.sa m.t.slots.length m.sc, .slice m.qa m.t.queue.length m.qc, vi m.t.to]) (cs := #[vi m.t.kind, vi m.t.lab.s, vi m.t.lab.v, vi m.t.ve, vi m.t.num, .slice m.sa m.t.slots.length m.sc, .slice m.qa m.t.queue.length m.qc, vi m.t.to]) Z Z Z ?_)
 intro bc bh E
 have ba := Yd E a9
 have O := low0 a9 E.grw
 refine Xe (v := vb false) Z Z (Xb (Xq (Xa (Xc (o' := 0) Qd Z Z Z (Xh (v := vi m.t.kind) X1 Z (E.blk.cell Z) Z (Q1 (q := !(decide (m.t.kind = 4))) Z Z Z Z (Xb (X0 Z (fun ad => ?_) (fun ad => ?_)))))))))
 have ar := Jr ad
 have ae := of_decide_eq_false ar
 refine Xa (Xc (o' := 6) Qq Z Z Z (Xh (v := .slice m.qa m.t.queue.length m.qc) Ju Z (E.blk.cell Z) Z (Y1 (by kernel_rfl) Z Z (X6 (q := decide ((m.t.queue.length : Int) = 0)) Z Z Z Z (Xe (v := vb (decide ((m.t.queue.length : Int) = 0))) Z Z (Xb (Xt (Yk (⟨vb (decide ((m.t.queue.length : Int) = 0)), Yt Z Z, ?_, O⟩)))))))))
 · first | (simp [queueOk, ae]; done) | (simp [queueOk, ae]; omega) | (simp [queueOk, ae]; intros; omega)
 have au := Q3 ad
 have G := of_decide_eq_true au
 refine Xz (Xu (Xq (Xa (Xc (o' := 6) Qq Z Z Z (Xh (v := .slice m.qa m.t.queue.length m.qc) Ju Z (E.blk.cell Z) Z (Y1 (by kernel_rfl) Z Z (Jm (q := decide (3 < (m.t.queue.length : Int))) Z Z Z Z (Xb (X0 Z (fun af => ?_) (fun af => ?_))))))))))
 have ag := of_decide_eq_true af
 refine Xa (Xe (v := vb false) Z Z (Xb (Xt (Yk (⟨vb false, Yt Z Z, ?_, O⟩)))))
 · first | (simp [queueOk, G, ag]; done) | (simp [queueOk, G, ag]; omega) | (simp [queueOk, G, ag]; intros; omega)
 have am := of_decide_eq_false af
 refine Xz (Xu (Xq (Xa (Xc (o' := 6) Qq Z Z Z (Xh (v := .slice m.qa m.t.queue.length m.qc) Ju Z (E.blk.cell Z) Z (Y1 (by kernel_rfl) Z Z (Xd (v := vi 0) Z Z (Xb (X9 (Ql (fun mm f' w' => ∃ (k : Nat), mm = m.t.queue.length - k ∧ k ≤ m.t.queue.length ∧ ((m.t.queue.take k).all numQ) = true ∧ f' 19 = vi (k : Int) ∧ f' 17 = .slice m.qa m.t.queue.length m.qc ∧ f' 18 = vi (m.t.queue.length : Int) ∧ w.grownBy w' none) (m.t.queue.length - 0) ⟨0, Z, (Nat.zero_le _), Z, Z, Z, Z, O⟩ ?_))))))))))
 rintro mm be bi ⟨k, bb, hk, ha, ac, ak, al, V⟩
 refine Xa (Qg (q := decide ((k : Int) < (m.t.queue.length : Int))) ac al Z Z (Xb (Xq (X0 Z (fun ah => ?_) (fun ah => ?_)))))
 have av := of_decide_eq_true ah
 refine Xz (Xu (Xq (X9 (Xa ?_))))
 obtain ⟨J, ab⟩ := Ja (l := m.t.queue) (i := k) (by omega)
 obtain ⟨bd, bg, bf, an, ap, aq⟩ := SlAt.at hq (Yp ab)
 refine X3 J4 ak ac an ap (by omega) (by omega) Z (Xh (v := vi J) X1 Z ((Yi aq V) 0 _ Z) Z (Xe (v := vi J) Z Z (Xb (Xa (Xd (v := vi J) Z Z (Xn Vy (Xf Z (Xf Z (Xf Z Xm))) Z (Jv J 0 99 _) ?_))))))
 rintro _ bj ⟨rfl, ao⟩
 have aj := low0 V ao
 refine Yn (b' := !inR J 0 99) Z Z Z (Xb (X0 Z (fun ai => ?_) (fun ai => ?_)))
 have aw := Jr ai
 refine Xa (Xe (v := vb false) Z Z (Xb (Xt (Qn (Yk (Yk (Qn (Yk (⟨vb false, Yt Z Z, ?_, aj⟩)))))))))
 simp [queueOk, G, am, av, Kp (p := numQ) ab aw]
 have az := Q3 ai
 exact Xz (Y3 (Xu (X2 (Yl (c := (k : Int) + 1) ac Z (by omega) (by omega) (by omega) Z (Xd (v := vi ((k : Int) + 1)) Z Z (Xb (Xu (⟨m.t.queue.length - (k + 1), by omega, (k + 1), Z, (by omega), (Kn (p := numQ) ha ab az), Z, ak, al, aj⟩))))))))
 have a8 := of_decide_eq_false ah
 refine Qf (Y9 (Y9 (Jh (Xu (Xa (Xe (v := vb true) Z Z (Xb (Xt (⟨vb true, Yt Z Z, ?_, V⟩)))))))))
 simp [queueOk, G, am, a8, Ku (p := numQ) ha (by omega)]; omega
theorem Mh (m : MTh) (w : World) (hs : SlAt w m.sa 5 (m.t.slots.map Rt.cells)) (hq : SlAt w m.qa 1 (m.t.queue.map icell)) (hsl : m.t.slots.length ≤ 9223372036854775806) (hql : m.t.queue.length ≤ 9223372036854775806) : CallsR Tryz.prog 76 #[.agg #[vi m.t.kind, vi m.t.lab.s, vi m.t.lab.v, vi m.t.ve, vi m.t.num, .slice m.sa m.t.slots.length m.sc, .slice m.qa m.t.queue.length m.qc, vi m.t.to]] w (fun v w' => v = vb (slotsOk m.t) ∧ w.grownBy w' none) := by
 refine Xx (n := 32) Tryz.func76 Z Tryz.ntmps76 Z ?_
 have bd := World.grownBy.refl w none
 refine Xa (Y7 (v := .agg #[vi m.t.kind, vi m.t.lab.s, vi m.t.lab.v, vi m.t.ve, vi m.t.num, .slice m.sa m.t.slots.length m.sc, .slice m.qa m.t.queue.length m.qc, vi m.t.to]) (cs := #[vi m.t.kind, vi m.t.lab.s, vi m.t.lab.v, vi m.t.ve, vi m.t.num, .slice m.sa m.t.slots.length m.sc, .slice m.qa m.t.queue.length m.qc, vi m.t.to]) Z Z Z ?_)
 intro ar be J
 have bf := Yd J bd
 have V := low0 bd J.grw
 refine Xe (v := vb false) Z Z (Xb (Xq (Ya (fun f' w' => (f' 1 = pt ar 0 ∧ f' 2 = vb false ∧ f' 12 = vb ((!(decide (m.t.kind = 2))) && (!(decide (m.t.kind = 3))))) ∧ be = w') ?_ ?_)))
 refine Xc (o' := 0) Qd Z Z Z (Xh (v := vi m.t.kind) X1 Z (J.blk.cell Z) Z (Q1 (q := !(decide (m.t.kind = 2))) Z Z Z Z (Xd (v := vb (!(decide (m.t.kind = 2)))) Z Z ?_)))
 rcases Yg (!(decide (m.t.kind = 2))) with G | G
 have am := Jr G
 have bn := of_decide_eq_false am
 exact Xg Z Z Z G (Xc (o' := 0) Qd Z Z Z (Xg Z Z Z G (Xh (v := vi m.t.kind) X1 Z (J.blk.cell Z) Z (Xg Z Z Z G (Q1 (q := !(decide (m.t.kind = 3))) Z Z Z Z (Xw (v := vb (!(decide (m.t.kind = 3)))) Z G Z Z (Xb ⟨⟨Z, Z, (cB (by simp [G, am]))⟩, Z⟩)))))))
 have an := Q3 G
 have bp := of_decide_eq_true an
 iterate 3 refine Xj rfl rfl rfl G rfl ?_
 exact Xp (v := vb false) Z G Z Z (Xb ⟨⟨Z, Z, (cB (by simp [G, an]))⟩, Z⟩)
 rintro bl bz ⟨⟨ae, bk, au⟩, rfl⟩
 refine X0 au (fun O => ?_) (fun O => ?_)
 have av := L0 O
 have aw := Jr av
 have bq := of_decide_eq_false aw
 have az := L1 O
 have a8 := Jr az
 have br := of_decide_eq_false a8
 refine Xa (Xc (o' := 5) Qj ae Z Z (Xh (v := .slice m.sa m.t.slots.length m.sc) Jd Z (J.blk.cell Z) Z (Y1 (by kernel_rfl) Z Z (X6 (q := decide ((m.t.slots.length : Int) = 0)) Z Z Z Z (Xe (v := vb (decide ((m.t.slots.length : Int) = 0))) Z Z (Xb (Xt (Yk (⟨vb (decide ((m.t.slots.length : Int) = 0)), Yt Z Z, ?_, V⟩)))))))))
 rw [Mi O]
 refine Xz (Xu (Xq (Xa (Xc (o' := 5) Qj ae Z Z (Xh (v := .slice m.sa m.t.slots.length m.sc) Jd Z (J.blk.cell Z) Z (Y1 (by kernel_rfl) Z Z (Q1 (q := !(decide ((m.t.slots.length : Int) = 4))) Z Z Z Z (Xb (X0 Z (fun ag => ?_) (fun ag => ?_))))))))))
 have a9 := Jr ag
 have bt := of_decide_eq_false a9
 refine Xa (Xe (v := vb false) Z Z (Xb (Xt (Yk (⟨vb false, Yt Z Z, ?_, V⟩)))))
 rw [G8 O]
 rw [decide_eq_false (by omega)]; rfl
 have ba := Q3 ag
 have bu := of_decide_eq_true ba
 refine Xz (Xu (Xq (Xa (Xc (o' := 5) Qj ae Z Z (Xh (v := .slice m.sa m.t.slots.length m.sc) Jd Z (J.blk.cell Z) Z ?_)))))
 obtain ⟨bj, bx, ao, aq⟩ := SlAt.all Qx (by omega) (SlAt.low hs V) (by omega)
 refine Zw Mw Z ao (by omega) Z (Xr (vs := m.t.slots.flatMap Rt.cells) Xdm Z (by rw [J1 Qx]; omega) aq Z (Xd (v := vi 0) Z Z (Xb (X9 (Ql (fun mm f' w' => ∃ (k : Nat), mm = m.t.slots.length - k ∧ k ≤ m.t.slots.length ∧ ((m.t.slots.take k).all rightOk) = true ∧ f' 25 = vi (k : Int) ∧ f' 24 = .agg (m.t.slots.flatMap Rt.cells).toArray ∧ w.grownBy w' none) (m.t.slots.length - 0) ⟨0, Z, (Nat.zero_le _), Z, Z, Z, V⟩ ?_)))))
 rintro mm bm ca ⟨k, bh, hk, ha, af, al, ac⟩
 refine Xa (Qg (q := decide ((k : Int) < 4)) af Z Z Z (Xb (Xq (X0 Z (fun ah => ?_) (fun ah => ?_)))))
 have bv := of_decide_eq_true ah
 refine Xz (Xu (Xq (X9 (Xa ?_))))
 obtain ⟨E, ad⟩ := Ja (l := m.t.slots) (i := k) (by omega)
 refine Pp (g := Rt.cells) (z := E) Mw Y0 Qx al af (by omega) (by omega) ad Z (Yf (cs := #[vi 0, vi 0, vb false, vb false, vb false]) K3 Z Z ?_)
 intro bi cc ab
 have bg := Yd ab ac
 refine Xy (vs := [vi E.th, vi E.ve, vb E.rd, vb E.wr, vb E.wk]) (cs' := #[vi E.th, vi E.ve, vb E.rd, vb E.wr, vb E.wk]) Y0 Z Z Z (by simp [Value.oneCell']) ab.blk (Nat.le_of_ble_eq_true Z) Z ?_
 intro cd aj
 refine Xb (Xa (Xr (vs := [vi E.th, vi E.ve, vb E.rd, vb E.wr, vb E.wk]) Y0 Z Z (aj.blk.rangeL 0 5 Z) Z (Xn Tf (Xf Z Xm) Z (Ww E _) ?_)))
 rintro _ ce ⟨rfl, ap⟩
 have ak := low0 (low1 (low0 ac ab.grw) aj.grw (by omega)) ap
 refine Yn (b' := !rightOk E) Z Z Z (Xb (X0 Z (fun ai => ?_) (fun ai => ?_)))
 have bb := Jr ai
 refine Xa (Xe (v := vb false) Z Z (Xb (Xt (Qn (Yk (Yk (Qn (Yk (⟨vb false, Yt Z Z, ?_, ak⟩)))))))))
 rw [G8 O]
 simp [Kp (p := rightOk) ad bb]
 have bc := Q3 ai
 exact Xz (Y3 (Xu (X2 (Yl (c := (k : Int) + 1) af Z (by omega) (by omega) (by omega) Z (Xd (v := vi ((k : Int) + 1)) Z Z (Xb (Xu (⟨m.t.slots.length - (k + 1), by omega, (k + 1), Z, (by omega), (Kn (p := rightOk) ha ad bc), Z, al, ak⟩))))))))
 have bw := of_decide_eq_false ah
 refine Qf (Y9 (Y9 (Jh (Xu (Xa (Xe (v := vb true) Z Z (Xb (Xt (⟨vb true, Yt Z Z, ?_, ac⟩)))))))))
 rw [G8 O]
 rw [Ku (p := rightOk) ha (by omega), decide_eq_true (by omega)]; rfl
theorem G4 (m : MTh) (w : World) (hs : SlAt w m.sa 5 (m.t.slots.map Rt.cells)) (hq : SlAt w m.qa 1 (m.t.queue.map icell)) (hsl : m.t.slots.length ≤ 9223372036854775806) (hql : m.t.queue.length ≤ 9223372036854775806) : CallsR Tryz.prog 49 #[.agg #[vi m.t.kind, vi m.t.lab.s, vi m.t.lab.v, vi m.t.ve, vi m.t.num, .slice m.sa m.t.slots.length m.sc, .slice m.qa m.t.queue.length m.qc, vi m.t.to]] w (fun v w' => v = vb (thingOk m.t) ∧ w.grownBy w' none) := by
 refine Xx (n := 31) Tryz.func49 Z Tryz.ntmps49 Z ?_
 have aw := World.grownBy.refl w none
 refine Xa (Y7 (v := .agg #[vi m.t.kind, vi m.t.lab.s, vi m.t.lab.v, vi m.t.ve, vi m.t.num, .slice m.sa m.t.slots.length m.sc, .slice m.qa m.t.queue.length m.qc, vi m.t.to]) (cs := #[vi m.t.kind, vi m.t.lab.s, vi m.t.lab.v, vi m.t.ve, vi m.t.num, .slice m.sa m.t.slots.length m.sc, .slice m.qa m.t.queue.length m.qc, vi m.t.to]) Z Z Z ?_)
 intro a9 az ah
 have a8 := Yd ah aw
 have ak := low0 aw ah.grw
 refine Xe (v := vb false) Z Z (Xb (Ya (fun f' w' => (f' 2 = vb ((((((inR m.t.kind 1 5 && labelOk m.t.lab) && versOk m.t) && numOk m.t) && slotsOk m.t) && queueOk m.t) && targetOk m.t)) ∧ az.grownBy w' none) ?_ ?_))
 refine Xc (o' := 0) Qd Z Z Z (Xh (v := vi m.t.kind) X1 Z (ah.blk.cell Z) Z (Xn Vy (Xf Z (Xf Z (Xf Z Xm))) Z (Jv m.t.kind 1 5 _) ?_))
 rintro _ bb ⟨rfl, J⟩
 refine Xd (v := vb (inR m.t.kind 1 5)) Z Z ?_
 rcases Yg (inR m.t.kind 1 5) with E | E
 refine Xg Z Z Z E (Xc (o' := 1) Ki Z Z Z (Xg Z Z Z E ?_))
 have am := (ah.blk.grown0 J)
 refine Xr (vs := [vi m.t.lab.s, vi m.t.lab.v]) J6 Z Z (am.rangeL 1 2 Z) Z (Xg Z Z Z E (Xn Ic (Xf Z Xm) Z (G2 m.t.lab _) ?_))
 rintro _ bc ⟨rfl, ab⟩
 refine Xw (v := vb (labelOk m.t.lab)) Z E Z Z (Xd (v := vb (labelOk m.t.lab)) Z Z ?_)
 rcases Yg (labelOk m.t.lab) with G | G
 refine Xg Z Z Z G ?_
 have an := (am.grown0 ab)
 refine Xr (vs := [vi m.t.kind, vi m.t.lab.s, vi m.t.lab.v, vi m.t.ve, vi m.t.num, .slice m.sa m.t.slots.length m.sc, .slice m.qa m.t.queue.length m.qc, vi m.t.to]) Ys Z Z (an.rangeL 0 8 Z) Z (Xg Z Z Z G (Xn Xcv (Xf Z Xm) Z (Ol m _) ?_))
 rintro _ bd ⟨rfl, ad⟩
 refine Xw (v := vb (versOk m.t)) Z G Z Z (Xd (v := vb (versOk m.t)) Z Z ?_)
 rcases Yg (versOk m.t) with O | O
 refine Xg Z Z Z O ?_
 have ao := (an.grown0 ad)
 refine Xr (vs := [vi m.t.kind, vi m.t.lab.s, vi m.t.lab.v, vi m.t.ve, vi m.t.num, .slice m.sa m.t.slots.length m.sc, .slice m.qa m.t.queue.length m.qc, vi m.t.to]) Ys Z Z (ao.rangeL 0 8 Z) Z (Xg Z Z Z O (Xn Xcw (Xf Z Xm) Z (Zf m _) ?_))
 rintro _ be ⟨rfl, af⟩
 have ai := low0 (low0 (low0 (low0 ak J) ab) ad) af
 refine Xw (v := vb (numOk m.t)) Z O Z Z (Xd (v := vb (numOk m.t)) Z Z ?_)
 rcases Yg (numOk m.t) with V | V
 refine Xg Z Z Z V ?_
 have ap := (ao.grown0 af)
 refine Xr (vs := [vi m.t.kind, vi m.t.lab.s, vi m.t.lab.v, vi m.t.ve, vi m.t.num, .slice m.sa m.t.slots.length m.sc, .slice m.qa m.t.queue.length m.qc, vi m.t.to]) Ys Z Z (ap.rangeL 0 8 Z) Z (Xg Z Z Z V (Xn Xcx (Xf Z Xm) Z (Mh m _ (SlAt.low hs ai) (SlAt.low hq ai) (by first | omega | exact Nat.le_of_ble_eq_true rfl | (simp only [List.length_nil, List.length_cons, List.length_append, List.length_replicate]; omega)) (by first | omega | exact Nat.le_of_ble_eq_true rfl | (simp only [List.length_nil, List.length_cons, List.length_append, List.length_replicate]; omega))) ?_))
 rintro _ bf ⟨rfl, ag⟩
 have al := low0 ai ag
 refine Xw (v := vb (slotsOk m.t)) Z V Z Z (Xd (v := vb (slotsOk m.t)) Z Z ?_)
 rcases Yg (slotsOk m.t) with ac | ac
 refine Xg Z Z Z ac ?_
 have aq := (ap.grown0 ag)
 refine Xr (vs := [vi m.t.kind, vi m.t.lab.s, vi m.t.lab.v, vi m.t.ve, vi m.t.num, .slice m.sa m.t.slots.length m.sc, .slice m.qa m.t.queue.length m.qc, vi m.t.to]) Ys Z Z (aq.rangeL 0 8 Z) Z (Xg Z Z Z ac (Xn Xcy (Xf Z Xm) Z (T8 m _ (SlAt.low hs al) (SlAt.low hq al) (by first | omega | exact Nat.le_of_ble_eq_true rfl | (simp only [List.length_nil, List.length_cons, List.length_append, List.length_replicate]; omega)) (by first | omega | exact Nat.le_of_ble_eq_true rfl | (simp only [List.length_nil, List.length_cons, List.length_append, List.length_replicate]; omega))) ?_))
 rintro _ bg ⟨rfl, aj⟩
 refine Xw (v := vb (queueOk m.t)) Z ac Z Z (Xd (v := vb (queueOk m.t)) Z Z ?_)
 rcases Yg (queueOk m.t) with ae | ae
 refine Xg Z Z Z ae (Xr (vs := [vi m.t.kind, vi m.t.lab.s, vi m.t.lab.v, vi m.t.ve, vi m.t.num, .slice m.sa m.t.slots.length m.sc, .slice m.qa m.t.queue.length m.qc, vi m.t.to]) Ys Z Z ((aq.grown0 aj).rangeL 0 8 Z) Z (Xg Z Z Z ae (Xn Xcz (Xf Z Xm) Z (S2 m _) ?_)))
 rintro _ bh ⟨rfl, ar⟩
 exact Xw (v := vb (targetOk m.t)) Z ae Z Z (Xe (v := vb (targetOk m.t)) Z Z (Xb ⟨(cB (by simp [E, G, O, V, ac, ae])), (grown_trans (grown_trans (grown_trans (grown_trans (grown_trans (grown_trans J ab) ad) af) ag) aj) ar)⟩))
 exact Xj Z Z Z ae Z (Xj Z Z Z ae Z (Xp (v := vb false) Z ae Z Z (Xe (v := vb false) Z Z (Xb ⟨(cB (by simp [E, G, O, V, ac, ae])), (grown_trans (grown_trans (grown_trans (grown_trans (grown_trans J ab) ad) af) ag) aj)⟩))))
 exact Xj Z Z Z ac Z (Xj Z Z Z ac Z (Xp (v := vb false) Z ac Z Z (Xd (v := vb false) Z Z (Xj Z Z Z Z Z (Xj Z Z Z Z Z (Xp (v := vb false) Z Z Z Z (Xe (v := vb false) Z Z (Xb ⟨(cB (by simp [E, G, O, V, ac])), (grown_trans (grown_trans (grown_trans (grown_trans J ab) ad) af) ag)⟩))))))))
 exact Xj Z Z Z V Z (Xj Z Z Z V Z (Xp (v := vb false) Z V Z Z (Xd (v := vb false) Z Z (Xj Z Z Z Z Z (Xj Z Z Z Z Z (Xp (v := vb false) Z Z Z Z (Xd (v := vb false) Z Z (Xj Z Z Z Z Z (Xj Z Z Z Z Z (Xp (v := vb false) Z Z Z Z (Xe (v := vb false) Z Z (Xb ⟨(cB (by simp [E, G, O, V])), (grown_trans (grown_trans (grown_trans J ab) ad) af)⟩))))))))))))
 refine Xj Z Z Z O Z (Xj Z Z Z O Z (Xp (v := vb false) Z O Z Z (Xd (v := vb false) Z Z (Xj Z Z Z Z Z (Xj Z Z Z Z Z (Xp (v := vb false) Z Z Z Z (Xd (v := vb false) Z Z (Xj Z Z Z Z Z (Xj Z Z Z Z Z (Xp (v := vb false) Z Z Z Z (Xd (v := vb false) Z Z (Xj Z Z Z Z Z ?_))))))))))))
 exact Xj Z Z Z Z Z (Xp (v := vb false) Z Z Z Z (Xe (v := vb false) Z Z (Xb ⟨(cB (by simp [E, G, O])), (grown_trans (grown_trans J ab) ad)⟩)))
 refine Xj Z Z Z G Z (Xj Z Z Z G Z (Xp (v := vb false) Z G Z Z (Xd (v := vb false) Z Z (Xj Z Z Z Z Z (Xj Z Z Z Z Z (Xp (v := vb false) Z Z Z Z (Xd (v := vb false) Z Z (Xj Z Z Z Z Z (Xj Z Z Z Z Z (Xp (v := vb false) Z Z Z Z (Xd (v := vb false) Z Z (Xj Z Z Z Z Z ?_))))))))))))
 exact Xj Z Z Z Z Z (Xp (v := vb false) Z Z Z Z (Xd (v := vb false) Z Z (Xj Z Z Z Z Z (Xj Z Z Z Z Z (Xp (v := vb false) Z Z Z Z (Xe (v := vb false) Z Z (Xb ⟨(cB (by simp [E, G])), (grown_trans J ab)⟩)))))))
 iterate 3 refine Xj rfl rfl rfl E rfl ?_
 refine Xp (v := vb false) Z E Z Z (Xd (v := vb false) Z Z (Xj Z Z Z Z Z (Xj Z Z Z Z Z (Xp (v := vb false) Z Z Z Z (Xd (v := vb false) Z Z (Xj Z Z Z Z Z (Xj Z Z Z Z Z (Xp (v := vb false) Z Z Z Z (Xd (v := vb false) Z Z (Xj Z Z Z Z Z (Xj Z Z Z Z Z (Xp (v := vb false) Z Z Z Z ?_))))))))))))
 exact Xd (v := vb false) Z Z (Xj Z Z Z Z Z (Xj Z Z Z Z Z (Xp (v := vb false) Z Z Z Z (Xd (v := vb false) Z Z (Xj Z Z Z Z Z (Xj Z Z Z Z Z (Xp (v := vb false) Z Z Z Z (Xe (v := vb false) Z Z (Xb ⟨(cB (by simp [E])), J⟩)))))))))
 rintro ba bi ⟨av, au⟩
 refine Xt (⟨vb ((((((inR m.t.kind 1 5 && labelOk m.t.lab) && versOk m.t) && numOk m.t) && slotsOk m.t) && queueOk m.t) && targetOk m.t), Yt Z av, ?_, (low0 ak au)⟩)
 rfl
theorem Vn (n : Int) (w : World) : CallsR Tryz.prog 85 #[vi n] w (fun v w' => v = vb (decide (n = 2) || decide (n = 3)) ∧ w.grownBy w' none) := by
 refine Xx (n := 9) Tryz.func85 Z Tryz.ntmps85 Z (Xa (Xe (v := vb false) Z Z (Xb (Ya (fun f' w' => (f' 2 = vb ((decide (n = 2)) || (decide (n = 3)))) ∧ w = w') ?_ ?_))))
 refine Xd (v := vi n) Z Z (X6 (q := decide (n = 2)) Z Z Z Z (Xd (v := vb (decide (n = 2))) Z Z ?_))
 rcases Yg (decide (n = 2)) with E | E
 have O := of_decide_eq_true E
 exact Xj Z Z Z E Z (Xj Z Z Z E Z (Xw (v := vb true) Z E Z Z (Xe (v := vb true) Z Z (Xb ⟨(cB (by simp [E])), Z⟩))))
 have V := of_decide_eq_false E
 exact Xg Z Z Z E (Xd (v := vi n) Z Z (Xg Z Z Z E (X6 (q := decide (n = 3)) Z Z Z Z (Xp (v := vb (decide (n = 3))) Z E Z Z (Xe (v := vb (decide (n = 3))) Z Z (Xb ⟨(cB (by simp [E])), Z⟩))))))
 rintro J ab ⟨G, rfl⟩
 refine Xt (⟨vb ((decide (n = 2)) || (decide (n = 3))), Yt Z G, ?_, (World.grownBy.refl w none)⟩)
 rfl
theorem V5 (m : MTh) (w : World) (hs : SlAt w m.sa 5 (m.t.slots.map Rt.cells)) (hq : SlAt w m.qa 1 (m.t.queue.map icell)) (hsl : m.t.slots.length ≤ 9223372036854775806) (hql : m.t.queue.length ≤ 9223372036854775806) : CallsR Tryz.prog 55 #[.agg #[vi m.t.kind, vi m.t.lab.s, vi m.t.lab.v, vi m.t.ve, vi m.t.num, .slice m.sa m.t.slots.length m.sc, .slice m.qa m.t.queue.length m.qc, vi m.t.to]] w (fun v w' => v = vb (thingOk m.t) ∧ w.grownBy w' none) := by
 refine Xx (n := 144) Tryz.func55 Z Tryz.ntmps55 Z ?_
 have ff := World.grownBy.refl w none
 refine Xa (Y7 (v := .agg #[vi m.t.kind, vi m.t.lab.s, vi m.t.lab.v, vi m.t.ve, vi m.t.num, .slice m.sa m.t.slots.length m.sc, .slice m.qa m.t.queue.length m.qc, vi m.t.to]) (cs := #[vi m.t.kind, vi m.t.lab.s, vi m.t.lab.v, vi m.t.ve, vi m.t.num, .slice m.sa m.t.slots.length m.sc, .slice m.qa m.t.queue.length m.qc, vi m.t.to]) Z Z Z ?_)
 intro bx fg ca
 have fj := Yd ca ff
 refine Xe (v := vb false) Z Z (Xb (Xq (Ya (fun f' w' => (f' 1 = pt bx 0 ∧ f' 2 = vb false ∧ f' 27 = vb ((((!inR m.t.kind 1 5) || (!labelOk m.t.lab)) || (!inR m.t.ve 0 5)) || (decide (3 < (m.t.queue.length : Int))))) ∧ fg.grownBy w' none) ?_ ?_)))
 refine Xc (o' := 0) Qd Z Z Z (Xh (v := vi m.t.kind) X1 Z (ca.blk.cell Z) Z (Xn K0 (Xf Z (Xf Z (Xf Z Xm))) Z (Kk m.t.kind 1 5 _) ?_))
 rintro _ ik ⟨rfl, cc⟩
 refine Yn (b' := !inR m.t.kind 1 5) Z Z Z (Xd (v := vb (!inR m.t.kind 1 5)) Z Z ?_)
 rcases Yg (!inR m.t.kind 1 5) with bd | bd
 have d4 := Jr bd
 iterate 4 refine Xj rfl rfl rfl bd rfl ?_
 refine Xw (v := vb true) Z bd Z Z (Xd (v := vb true) Z Z ?_)
 iterate 4 refine Xj rfl rfl rfl rfl rfl ?_
 refine Xw (v := vb true) Z Z Z Z (Xd (v := vb true) Z Z ?_)
 iterate 4 refine Xj rfl rfl rfl rfl rfl ?_
 exact Xw (v := vb true) Z Z Z Z (Xb ⟨⟨Z, Z, (congrArg Value.bool (by first | (simp only [bd, d4, b0, b1, b2, b3, b4, b5, b6, b7, b8, b9]; done) | simp [bd, d4]))⟩, cc⟩)
 have cg := Q3 bd
 refine Xg Z Z Z bd (Xc (o' := 1) Ki Z Z Z (Xg Z Z Z bd ?_))
 have d9 := (ca.blk.grown0 cc)
 refine Xr (vs := [vi m.t.lab.s, vi m.t.lab.v]) J6 Z Z (d9.rangeL 1 2 Z) Z (Xg Z Z Z bd (Xn Xc3 (Xf Z Xm) Z (Sz m.t.lab _) ?_))
 rintro _ il ⟨rfl, cj⟩
 refine Xg Z Z Z bd (Yn (b' := !labelOk m.t.lab) Z Z Z (Xp (v := vb (!labelOk m.t.lab)) Z bd Z Z (Xd (v := vb (!labelOk m.t.lab)) Z Z ?_)))
 rcases Yg (!labelOk m.t.lab) with bf | bf
 have d5 := Jr bf
 iterate 4 refine Xj rfl rfl rfl bf rfl ?_
 refine Xw (v := vb true) Z bf Z Z (Xd (v := vb true) Z Z ?_)
 iterate 4 refine Xj rfl rfl rfl rfl rfl ?_
 exact Xw (v := vb true) Z Z Z Z (Xb ⟨⟨Z, Z, (congrArg Value.bool (by first | (simp only [bd, cg, bf, d5, b0, b1, b2, b3, b4, b5, b6, b7, b8, b9]; done) | simp [bd, cg, bf, d5]))⟩, (grown_trans cc cj)⟩)
 have c9 := Q3 bf
 refine Xg Z Z Z bf (Xc (o' := 3) Qz Z Z Z (Xg Z Z Z bf ?_))
 have ea := (d9.grown0 cj)
 refine Xh (v := vi m.t.ve) X1 Z (ea.cell Z) Z (Xg Z Z Z bf (Xn K0 (Xf Z (Xf Z (Xf Z Xm))) Z (Kk m.t.ve 0 5 _) ?_))
 rintro _ im ⟨rfl, ct⟩
 refine Xg Z Z Z bf (Yn (b' := !inR m.t.ve 0 5) Z Z Z (Xp (v := vb (!inR m.t.ve 0 5)) Z bf Z Z (Xd (v := vb (!inR m.t.ve 0 5)) Z Z ?_)))
 rcases Yg (!inR m.t.ve 0 5) with bh | bh
 have d6 := Jr bh
 iterate 4 refine Xj rfl rfl rfl bh rfl ?_
 exact Xw (v := vb true) Z bh Z Z (Xb ⟨⟨Z, Z, (congrArg Value.bool (by first | (simp only [bd, cg, bf, c9, bh, d6, b0, b1, b2, b3, b4, b5, b6, b7, b8, b9]; done) | simp [bd, cg, bf, c9, bh, d6]))⟩, (grown_trans (grown_trans cc cj) ct)⟩)
 have d7 := Q3 bh
 exact Xg Z Z Z bh (Xc (o' := 6) Qq Z Z Z (Xg Z Z Z bh (Xh (v := .slice m.qa m.t.queue.length m.qc) Ju Z ((ea.grown0 ct).cell Z) Z (Xg Z Z Z bh (Y1 (by kernel_rfl) Z Z (Xg Z Z Z bh (Jm (q := decide (3 < (m.t.queue.length : Int))) Z Z Z Z (Xp (v := vb (decide (3 < (m.t.queue.length : Int)))) Z bh Z Z (Xb ⟨⟨Z, Z, (congrArg Value.bool (by first | (simp only [bd, cg, bf, c9, bh, d7, b0, b1, b2, b3, b4, b5, b6, b7, b8, b9]; done) | simp [bd, cg, bf, c9, bh, d7]))⟩, (grown_trans (grown_trans cc cj) ct)⟩)))))))))
 rintro fr ee ⟨⟨dc, d3, ep⟩, dw⟩
 have dq := low0 (low0 ff ca.grw) dw
 refine X0 ep (fun E => ?_) (fun E => ?_)
 refine Xa (Xe (v := vb false) Z Z (Xb (Xt (Yk (⟨vb false, Yt Z Z, ?_, dq⟩)))))
 exact congrArg Value.bool (Xdp E)
 have G := Kl E
 have J := Kl G
 have O := Kl J
 have ad := Q3 O
 have V := Km J
 have ae := Q3 V
 have ab := Km G
 have af := Q3 ab
 have ac := Km E
 have fz := of_decide_eq_false ac
 refine Xz (Xu (Xa (Xe (v := vi 0) Z Z (Xb (Xq (Xa (Xc (o' := 0) Qd dc Z Z ?_)))))))
 have da := (ca.blk.grown0 dw)
 refine Xh (v := vi m.t.kind) X1 Z (da.cell Z) Z (X6 (q := decide (m.t.kind = 3)) Z Z Z Z (Xb (To (fun f' w' => (f' 1 = pt bx 0 ∧ f' 2 = vb false ∧ f' 3 = vi (if m.t.kind = 3 then (-4) else 0)) ∧ ee = w') ?_ ?_)))
 refine X0 Z (fun ck => ?_) (fun ck => ?_)
 have f8 := of_decide_eq_true ck
 exact X2 (Xe (v := vi (-4)) Z Z (Xb (Xu (⟨⟨dc, d3, (congrArg (Value.int .i64) (if_pos (of_decide_eq_true ck)).symm)⟩, Z⟩))))
 have f9 := of_decide_eq_false ck
 exact Xz (Xu (⟨⟨dc, d3, (congrArg (Value.int .i64) (if_neg (of_decide_eq_false ck)).symm)⟩, Z⟩))
 rintro ft _ ⟨⟨ba, bv, eu⟩, rfl⟩
 refine Xu (Xq (Ya (fun f' w' => (f' 1 = pt bx 0 ∧ f' 2 = vb false ∧ f' 65 = vb (((!inR m.t.num (if m.t.kind = 3 then (-4) else 0) 99) || ((!(decide (m.t.num = 0))) && ((decide (m.t.kind = 2)) || (decide (m.t.kind = 4))))) || ((!(decide (m.t.ve = 0))) && ((decide (m.t.kind = 3)) || (decide (m.t.kind = 5)))))) ∧ ee.grownBy w' none) ?_ ?_))
 refine Xc (o' := 4) Qw ba Z Z (Xh (v := vi m.t.num) X1 Z (da.cell Z) Z (Xd (v := vi (if m.t.kind = 3 then (-4) else 0)) eu Z (Xn K0 (Xf Z (Xf Z (Xf Z Xm))) Z (Kk m.t.num (if m.t.kind = 3 then (-4) else 0) 99 _) ?_)))
 rintro _ io ⟨rfl, bm⟩
 refine Yn (b' := !inR m.t.num (if m.t.kind = 3 then (-4) else 0) 99) Z Z Z (Xd (v := vb (!inR m.t.num (if m.t.kind = 3 then (-4) else 0) 99)) Z Z ?_)
 rcases Yg (!inR m.t.num (if m.t.kind = 3 then (-4) else 0) 99) with ag | ag
 have d8 := Jr ag
 iterate 4 refine Xj rfl rfl rfl ag rfl ?_
 iterate 8 refine Yu rfl rfl rfl rfl ?_
 refine Xj Z Z Z ag Z (Xw (v := vb true) Z ag Z Z (Xd (v := vb true) Z Z ?_))
 iterate 4 refine Xj rfl rfl rfl rfl rfl ?_
 iterate 8 refine Yu rfl rfl rfl rfl ?_
 exact Xj Z Z Z Z Z (Xw (v := vb true) Z Z Z Z (Xb ⟨⟨ba, bv, (congrArg Value.bool (by first | (simp only [E, G, J, O, ad, V, ae, ab, af, ac, ag, d8, b0, b1, b2, b3, b4, b5, b6, b7, b8, b9]; done) | simp [E, G, J, O, ad, V, ae, ab, af, ac, ag, d8]))⟩, bm⟩))
 have bg := Q3 ag
 refine Xg Z Z Z ag (Xc (o' := 4) Qw ba Z Z (Xg Z Z Z ag ?_))
 have bw := (da.grown0 bm)
 refine Xh (v := vi m.t.num) X1 Z (bw.cell Z) Z (Xg Z Z Z ag (Q1 (q := !(decide (m.t.num = 0))) Z Z Z Z (Xg Z Z Z ag (Xd (v := vb (!(decide (m.t.num = 0)))) Z Z ?_))))
 rcases Yg (!(decide (m.t.num = 0))) with ah | ah
 have bu := Jr ah
 have ga := of_decide_eq_false bu
 refine Xg Z Z Z ah (Xc (o' := 0) Qd ba Z Z (Xg Z Z Z ah (Xh (v := vi m.t.kind) X1 Z (bw.cell Z) Z (Xg Z Z Z ah (X6 (q := decide (m.t.kind = 2)) Z Z Z Z (Xg Z Z Z ah (Xd (v := vb (decide (m.t.kind = 2))) Z Z ?_)))))))
 rcases Yg (decide (m.t.kind = 2)) with bb | bb
 have gb := of_decide_eq_true bb
 iterate 3 refine Xj rfl rfl rfl bb rfl ?_
 refine Xg Z Z Z ah (Xw (v := vb true) Z bb Z Z (Xg Z Z Z ag (Xw (v := vb true) Z ah Z Z (Xp (v := vb true) Z ag Z Z (Xd (v := vb true) Z Z ?_)))))
 iterate 4 refine Xj rfl rfl rfl rfl rfl ?_
 iterate 8 refine Yu rfl rfl rfl rfl ?_
 exact Xj Z Z Z Z Z (Xw (v := vb true) Z Z Z Z (Xb ⟨⟨ba, bv, (congrArg Value.bool (by first | (simp only [E, G, J, O, ad, V, ae, ab, af, ac, ag, bg, ah, bu, bb, b0, b1, b2, b3, b4, b5, b6, b7, b8, b9]; done) | simp [E, G, J, O, ad, V, ae, ab, af, ac, ag, bg, ah, bu, bb]))⟩, bm⟩))
 have gc := of_decide_eq_false bb
 refine Xg Z Z Z bb (Xc (o' := 0) Qd ba Z Z (Xg Z Z Z bb (Xh (v := vi m.t.kind) X1 Z (bw.cell Z) Z (Xg Z Z Z bb (X6 (q := decide (m.t.kind = 4)) Z Z Z Z (Xg Z Z Z ah (Xp (v := vb (decide (m.t.kind = 4))) Z bb Z Z (Xg Z Z Z ag (Xw (v := vb (decide (m.t.kind = 4))) Z ah Z Z (Xp (v := vb (decide (m.t.kind = 4))) Z ag Z Z (Xd (v := vb (decide (m.t.kind = 4))) Z Z ?_)))))))))))
 rcases Yg (decide (m.t.kind = 4)) with ak | ak
 have gf := of_decide_eq_true ak
 iterate 4 refine Xj rfl rfl rfl ak rfl ?_
 iterate 8 refine Yu rfl rfl rfl rfl ?_
 exact Xj Z Z Z ak Z (Xw (v := vb true) Z ak Z Z (Xb ⟨⟨ba, bv, (congrArg Value.bool (by first | (simp only [E, G, J, O, ad, V, ae, ab, af, ac, ag, bg, ah, bu, bb, ak, b0, b1, b2, b3, b4, b5, b6, b7, b8, b9]; done) | simp [E, G, J, O, ad, V, ae, ab, af, ac, ag, bg, ah, bu, bb, ak]))⟩, bm⟩))
 have gg := of_decide_eq_false ak
 refine Xg Z Z Z ak (Xc (o' := 3) Qz ba Z Z (Xg Z Z Z ak (Xh (v := vi m.t.ve) X1 Z (bw.cell Z) Z (Xg Z Z Z ak (Q1 (q := !(decide (m.t.ve = 0))) Z Z Z Z (Xg Z Z Z ak (Xd (v := vb (!(decide (m.t.ve = 0)))) Z Z ?_)))))))
 rcases Yg (!(decide (m.t.ve = 0))) with av | av
 have cl := Jr av
 have gh := of_decide_eq_false cl
 refine Xg Z Z Z av (Xc (o' := 0) Qd ba Z Z (Xg Z Z Z av (Xh (v := vi m.t.kind) X1 Z (bw.cell Z) Z (Xg Z Z Z av (X6 (q := decide (m.t.kind = 3)) Z Z Z Z (Xg Z Z Z av (Xd (v := vb (decide (m.t.kind = 3))) Z Z ?_)))))))
 rcases Yg (decide (m.t.kind = 3)) with bn | bn
 have gi := of_decide_eq_true bn
 iterate 3 refine Xj rfl rfl rfl bn rfl ?_
 exact Xg Z Z Z av (Xw (v := vb true) Z bn Z Z (Xg Z Z Z ak (Xw (v := vb true) Z av Z Z (Xp (v := vb true) Z ak Z Z (Xb ⟨⟨ba, bv, (congrArg Value.bool (by first | (simp only [E, G, J, O, ad, V, ae, ab, af, ac, ag, bg, ah, bu, bb, ak, av, cl, bn, b0, b1, b2, b3, b4, b5, b6, b7, b8, b9]; done) | simp [E, G, J, O, ad, V, ae, ab, af, ac, ag, bg, ah, bu, bb, ak, av, cl, bn]))⟩, bm⟩)))))
 have gj := of_decide_eq_false bn
 exact Xg Z Z Z bn (Xc (o' := 0) Qd ba Z Z (Xg Z Z Z bn (Xh (v := vi m.t.kind) X1 Z (bw.cell Z) Z (Xg Z Z Z bn (X6 (q := decide (m.t.kind = 5)) Z Z Z Z (Xg Z Z Z av (Xp (v := vb (decide (m.t.kind = 5))) Z bn Z Z (Xg Z Z Z ak (Xw (v := vb (decide (m.t.kind = 5))) Z av Z Z (Xp (v := vb (decide (m.t.kind = 5))) Z ak Z Z (Xb ⟨⟨ba, bv, (congrArg Value.bool (by first | (simp only [E, G, J, O, ad, V, ae, ab, af, ac, ag, bg, ah, bu, bb, ak, av, cl, bn, b0, b1, b2, b3, b4, b5, b6, b7, b8, b9]; done) | simp [E, G, J, O, ad, V, ae, ab, af, ac, ag, bg, ah, bu, bb, ak, av, cl, bn]))⟩, bm⟩)))))))))))
 have dg := Q3 av
 have gk := of_decide_eq_true dg
 iterate 4 refine Xj rfl rfl rfl av rfl ?_
 iterate 3 refine Yu rfl rfl rfl rfl ?_
 exact Xj Z Z Z av Z (Xg Z Z Z ak (Xp (v := vb false) Z av Z Z (Xp (v := vb false) Z ak Z Z (Xb ⟨⟨ba, bv, (congrArg Value.bool (by first | (simp only [E, G, J, O, ad, V, ae, ab, af, ac, ag, bg, ah, bu, bb, ak, av, dg, b0, b1, b2, b3, b4, b5, b6, b7, b8, b9]; done) | simp [E, G, J, O, ad, V, ae, ab, af, ac, ag, bg, ah, bu, bb, ak, av, dg]))⟩, bm⟩))))
 have bz := Q3 ah
 have gl := of_decide_eq_true bz
 iterate 4 refine Xj rfl rfl rfl ah rfl ?_
 iterate 3 refine Yu rfl rfl rfl rfl ?_
 refine Xj Z Z Z ah Z (Xg Z Z Z ag (Xp (v := vb false) Z ah Z Z (Xp (v := vb false) Z ag Z Z (Xd (v := vb false) Z Z (Xg Z Z Z Z (Xc (o' := 3) Qz ba Z Z (Xg Z Z Z Z (Xh (v := vi m.t.ve) X1 Z (bw.cell Z) Z (Xg Z Z Z Z (Q1 (q := !(decide (m.t.ve = 0))) Z Z Z Z (Xg Z Z Z Z (Xd (v := vb (!(decide (m.t.ve = 0)))) Z Z ?_))))))))))))
 rcases Yg (!(decide (m.t.ve = 0))) with aw | aw
 have cm := Jr aw
 have gm := of_decide_eq_false cm
 refine Xg Z Z Z aw (Xc (o' := 0) Qd ba Z Z (Xg Z Z Z aw (Xh (v := vi m.t.kind) X1 Z (bw.cell Z) Z (Xg Z Z Z aw (X6 (q := decide (m.t.kind = 3)) Z Z Z Z (Xg Z Z Z aw (Xd (v := vb (decide (m.t.kind = 3))) Z Z ?_)))))))
 rcases Yg (decide (m.t.kind = 3)) with bp | bp
 have gp := of_decide_eq_true bp
 iterate 3 refine Xj rfl rfl rfl bp rfl ?_
 exact Xg Z Z Z aw (Xw (v := vb true) Z bp Z Z (Xg Z Z Z Z (Xw (v := vb true) Z aw Z Z (Xp (v := vb true) Z Z Z Z (Xb ⟨⟨ba, bv, (congrArg Value.bool (by first | (simp only [E, G, J, O, ad, V, ae, ab, af, ac, ag, bg, ah, bz, aw, cm, bp, b0, b1, b2, b3, b4, b5, b6, b7, b8, b9]; done) | simp [E, G, J, O, ad, V, ae, ab, af, ac, ag, bg, ah, bz, aw, cm, bp]))⟩, bm⟩)))))
 have gq := of_decide_eq_false bp
 exact Xg Z Z Z bp (Xc (o' := 0) Qd ba Z Z (Xg Z Z Z bp (Xh (v := vi m.t.kind) X1 Z (bw.cell Z) Z (Xg Z Z Z bp (X6 (q := decide (m.t.kind = 5)) Z Z Z Z (Xg Z Z Z aw (Xp (v := vb (decide (m.t.kind = 5))) Z bp Z Z (Xg Z Z Z Z (Xw (v := vb (decide (m.t.kind = 5))) Z aw Z Z (Xp (v := vb (decide (m.t.kind = 5))) Z Z Z Z (Xb ⟨⟨ba, bv, (congrArg Value.bool (by first | (simp only [E, G, J, O, ad, V, ae, ab, af, ac, ag, bg, ah, bz, aw, cm, bp, b0, b1, b2, b3, b4, b5, b6, b7, b8, b9]; done) | simp [E, G, J, O, ad, V, ae, ab, af, ac, ag, bg, ah, bz, aw, cm, bp]))⟩, bm⟩)))))))))))
 have dh := Q3 aw
 have gr := of_decide_eq_true dh
 iterate 4 refine Xj rfl rfl rfl aw rfl ?_
 iterate 3 refine Yu rfl rfl rfl rfl ?_
 exact Xj Z Z Z aw Z (Xg Z Z Z Z (Xp (v := vb false) Z aw Z Z (Xp (v := vb false) Z Z Z Z (Xb ⟨⟨ba, bv, (congrArg Value.bool (by first | (simp only [E, G, J, O, ad, V, ae, ab, af, ac, ag, bg, ah, bz, aw, dh, b0, b1, b2, b3, b4, b5, b6, b7, b8, b9]; done) | simp [E, G, J, O, ad, V, ae, ab, af, ac, ag, bg, ah, bz, aw, dh]))⟩, bm⟩))))
 rintro fu ip ⟨⟨ew, fq, ez⟩, dx⟩
 have dr := low0 dq dx
 refine X0 ez (fun aj => ?_) (fun aj => ?_)
 refine Xa (Xe (v := vb false) Z Z (Xb (Xt (Yk (⟨vb false, Yt Z Z, ?_, dr⟩)))))
 exact congrArg Value.bool (Xdq aj)
 have ap := Kl aj
 have aq := Kl ap
 have az := Q3 aq
 have a8 := Km ap
 have a9 := Km aj
 refine Xz (Xu (Xq (Xa (Xe (v := vi 0) Z Z (Xb (X9 (Ql (fun mm f' w' => ∃ (k : Nat), mm = m.t.queue.length - k ∧ k ≤ m.t.queue.length ∧ ((m.t.queue.take k).all numQ) = true ∧ f' 4 = vi (k : Int) ∧ f' 1 = pt bx 0 ∧ w.grownBy w' none ∧ Blk w' bx 39 #[vi m.t.kind, vi m.t.lab.s, vi m.t.lab.v, vi m.t.ve, vi m.t.num, .slice m.sa m.t.slots.length m.sc, .slice m.qa m.t.queue.length m.qc, vi m.t.to]) (m.t.queue.length - 0) ⟨0, Z, (Nat.zero_le _), Z, Z, ew, dr, (da.grown0 dx)⟩ ?_)))))))
 rintro mm fv iq ⟨k, fk, hk, ha, de, c8, cn, db⟩
 refine Xq (Xa (Xd (v := vi (k : Int)) de Z (Xc (o' := 6) Qq c8 Z Z (Xh (v := .slice m.qa m.t.queue.length m.qc) Ju Z (db.cell Z) Z (Y1 (by kernel_rfl) Z Z (Qg (q := decide ((k : Int) < (m.t.queue.length : Int))) Z Z Z Z (Xb (X0 Z (fun am => ?_) (fun am => ?_)))))))))
 have gt := of_decide_eq_true am
 refine Xz (Xu (Xq (X9 (Xa (Xc (o' := 6) Qq c8 Z Z (Xh (v := .slice m.qa m.t.queue.length m.qc) Ju Z (db.cell Z) Z (Xd (v := vi (k : Int)) de Z ?_)))))))
 obtain ⟨d2, cy⟩ := Ja (l := m.t.queue) (i := k) (by omega)
 obtain ⟨fo, ii, ie, ef, ej, em⟩ := SlAt.at hq (Yp cy)
 refine X3 J4 Z Z ef ej (by omega) (by omega) Z (Xh (v := vi d2) X1 Z ((Yi em cn) 0 _ Z) Z (Xn K0 (Xf Z (Xf Z (Xf Z Xm))) Z (Kk d2 0 99 _) ?_))
 rintro _ ir ⟨rfl, dy⟩
 have dt := low0 cn dy
 refine Yn (b' := !inR d2 0 99) Z Z Z (Xb (X0 Z (fun di => ?_) (fun di => ?_)))
 have fb := Jr di
 refine Xa (Xe (v := vb false) Z Z (Xb (Xt (Qn (Yk (Yk (Qn (Yk (⟨vb false, Yt Z Z, ?_, dt⟩)))))))))
 exact congrArg Value.bool (Xdt cy fb)
 have fc := Q3 di
 exact Xz (Y3 (Xu (X2 (Xd (v := vi (k : Int)) de Z (Yl (c := (k : Int) + 1) Z Z (by omega) (by omega) (by omega) Z (Xe (v := vi ((k : Int) + 1)) Z Z (Xb (Xu (⟨m.t.queue.length - (k + 1), by omega, (k + 1), Z, (by omega), (Kn (p := numQ) ha cy fc), Z, c8, dt, (db.grown0 dy)⟩)))))))))
 have gu := of_decide_eq_false am
 refine Qf (Y9 (Y9 (Jh (Xu (Xq (Xa (Xe (v := vi 0) Z Z (Xb (X9 (Ql (fun mm f' w' => ∃ (j : Nat), mm = m.t.slots.length - j ∧ j ≤ m.t.slots.length ∧ ((m.t.slots.take j).all rightOk) = true ∧ f' 5 = vi (j : Int) ∧ f' 1 = pt bx 0 ∧ w.grownBy w' none ∧ Blk w' bx 39 #[vi m.t.kind, vi m.t.lab.s, vi m.t.lab.v, vi m.t.ve, vi m.t.num, .slice m.sa m.t.slots.length m.sc, .slice m.qa m.t.queue.length m.qc, vi m.t.to]) (m.t.slots.length - 0) ⟨0, Z, (Nat.zero_le _), Z, Z, c8, cn, db⟩ ?_))))))))))
 rintro mm fw fh ⟨j, fm, hj, hb, df, bt, co, ce⟩
 refine Xq (Xa (Xd (v := vi (j : Int)) df Z (Xc (o' := 5) Qj bt Z Z (Xh (v := .slice m.sa m.t.slots.length m.sc) Jd Z (ce.cell Z) Z (Y1 (by kernel_rfl) Z Z (Qg (q := decide ((j : Int) < (m.t.slots.length : Int))) Z Z Z Z (Xb (X0 Z (fun an => ?_) (fun an => ?_)))))))))
 have gv := of_decide_eq_true an
 refine Xz (Xu (Xq (X9 (Xa (Xc (o' := 5) Qj bt Z Z (Xh (v := .slice m.sa m.t.slots.length m.sc) Jd Z (ce.cell Z) Z (Xd (v := vi (j : Int)) df Z ?_)))))))
 obtain ⟨cf, cz⟩ := Ja (l := m.t.slots) (i := j) (by omega)
 obtain ⟨fp, ij, ig, eg, ek, eo⟩ := SlAt.at hs (Yp cz)
 refine X3 J9 Z Z eg ek (by omega) (by omega) Z (Xr (vs := [vi cf.th, vi cf.ve, vb cf.rd, vb cf.wr, vb cf.wk]) Y0 Z Z (Y2 (Yi eo co) 0 5 Z) Z (Xn Xam (Xf Z Xm) Z (Lj cf _) ?_))
 rintro _ it ⟨rfl, dz⟩
 have du := low0 co dz
 refine Yn (b' := !rightOk cf) Z Z Z (Xb (X0 Z (fun dk => ?_) (fun dk => ?_)))
 have fd := Jr dk
 refine Xa (Xe (v := vb false) Z Z (Xb (Xt (Qn (Yk (Yk (Qn (Yk (⟨vb false, Yt Z Z, ?_, du⟩)))))))))
 exact congrArg Value.bool (Xdu cz fd)
 have fe := Q3 dk
 exact Xz (Y3 (Xu (X2 (Xd (v := vi (j : Int)) df Z (Yl (c := (j : Int) + 1) Z Z (by omega) (by omega) (by omega) Z (Xe (v := vi ((j : Int) + 1)) Z Z (Xb (Xu (⟨m.t.slots.length - (j + 1), by omega, (j + 1), Z, (by omega), (Kn (p := rightOk) hb cz fe), Z, bt, du, (ce.grown0 dz)⟩)))))))))
 have gw := of_decide_eq_false an
 refine Qf (Y9 (Y9 (Jh (Xu (Xq (Ya (fun f' w' => (f' 1 = pt bx 0 ∧ f' 114 = vb ((((decide (m.t.kind = 2)) || (decide (m.t.kind = 3))) && (!(decide ((m.t.slots.length : Int) = 4)))) || ((!((decide (m.t.kind = 2)) || (decide (m.t.kind = 3)))) && (!(decide ((m.t.slots.length : Int) = 0)))))) ∧ fh.grownBy w' none) ?_ ?_))))))
 refine Xc (o' := 0) Qd bt Z Z (Xh (v := vi m.t.kind) X1 Z (ce.cell Z) Z (Xn Lb (Xf Z Xm) Z (Vn m.t.kind _) ?_))
 rintro _ iu ⟨rfl, cd⟩
 refine Xd (v := vb ((decide (m.t.kind = 2)) || (decide (m.t.kind = 3)))) Z Z ?_
 rcases Yg ((decide (m.t.kind = 2)) || (decide (m.t.kind = 3))) with ao | ao
 refine Xg Z Z Z ao (Xc (o' := 5) Qj bt Z Z (Xg Z Z Z ao ?_))
 have eb := (ce.grown0 cd)
 refine Xh (v := .slice m.sa m.t.slots.length m.sc) Jd Z (eb.cell Z) Z (Xg Z Z Z ao (Y1 (by kernel_rfl) Z Z (Xg Z Z Z ao (Q1 (q := !(decide ((m.t.slots.length : Int) = 4))) Z Z Z Z (Xw (v := vb (!(decide ((m.t.slots.length : Int) = 4)))) Z ao Z Z (Xd (v := vb (!(decide ((m.t.slots.length : Int) = 4)))) Z Z ?_))))))
 rcases Yg (!(decide ((m.t.slots.length : Int) = 4))) with be | be
 have dl := Jr be
 have gx := of_decide_eq_false dl
 iterate 5 refine Xj rfl rfl rfl be rfl ?_
 iterate 4 refine Yu rfl rfl rfl rfl ?_
 exact Xj Z Z Z be Z (Xw (v := vb true) Z be Z Z (Xb ⟨⟨bt, (congrArg Value.bool (by first | (simp only [E, G, J, O, ad, V, ae, ab, af, ac, aj, ap, aq, az, a8, a9, am, an, ao, be, dl, b0, b1, b2, b3, b4, b5, b6, b7, b8, b9]; done) | simp [E, G, J, O, ad, V, ae, ab, af, ac, aj, ap, aq, az, a8, a9, am, an, ao, be, dl]))⟩, cd⟩))
 have dm := Q3 be
 have gy := of_decide_eq_true dm
 refine Xg Z Z Z be (Xc (o' := 0) Qd bt Z Z (Xg Z Z Z be (Xh (v := vi m.t.kind) X1 Z (eb.cell Z) Z (Xg Z Z Z be (Xn Lb (Xf Z Xm) Z (Vn m.t.kind _) ?_)))))
 rintro _ iv ⟨rfl, eh⟩
 refine Xg Z Z Z be (Yn (b' := !((decide (m.t.kind = 2)) || (decide (m.t.kind = 3)))) Z Z Z (Xg Z Z Z be (Xd (v := vb (!((decide (m.t.kind = 2)) || (decide (m.t.kind = 3))))) Z Z ?_)))
 iterate 4 refine Xj rfl rfl rfl (Ks ao) rfl ?_
 exact Xg Z Z Z be (Xp (v := vb false) Z (Ks ao) Z Z (Xp (v := vb false) Z be Z Z (Xb ⟨⟨bt, (congrArg Value.bool (by first | (simp only [E, G, J, O, ad, V, ae, ab, af, ac, aj, ap, aq, az, a8, a9, am, an, ao, be, dm, b0, b1, b2, b3, b4, b5, b6, b7, b8, b9]; done) | simp [E, G, J, O, ad, V, ae, ab, af, ac, aj, ap, aq, az, a8, a9, am, an, ao, be, dm]))⟩, (grown_trans cd eh)⟩)))
 have dn := Kl ao
 have gz := of_decide_eq_false dn
 have dp := Km ao
 have g0 := of_decide_eq_false dp
 iterate 4 refine Xj rfl rfl rfl ao rfl ?_
 refine Xp (v := vb false) Z ao Z Z (Xd (v := vb false) Z Z (Xg Z Z Z Z (Xc (o' := 0) Qd bt Z Z (Xg Z Z Z Z ?_))))
 have ed := (ce.grown0 cd)
 refine Xh (v := vi m.t.kind) X1 Z (ed.cell Z) Z (Xg Z Z Z Z (Xn Lb (Xf Z Xm) Z (Vn m.t.kind _) ?_))
 rintro _ iw ⟨rfl, d0⟩
 refine Xg Z Z Z Z (Yn (b' := !((decide (m.t.kind = 2)) || (decide (m.t.kind = 3)))) Z Z Z (Xg Z Z Z Z (Xd (v := vb (!((decide (m.t.kind = 2)) || (decide (m.t.kind = 3))))) Z Z (Xg Z Z Z (J7 ao) (Xc (o' := 5) Qj bt Z Z (Xg Z Z Z (J7 ao) (Xh (v := .slice m.sa m.t.slots.length m.sc) Jd Z ((ed.grown0 d0).cell Z) Z (Xg Z Z Z (J7 ao) (Y1 (by kernel_rfl) Z Z (Xg Z Z Z (J7 ao) (Q1 (q := !(decide ((m.t.slots.length : Int) = 0))) Z Z Z Z (Xg Z Z Z Z ?_))))))))))))
 exact Xw (v := vb (!(decide ((m.t.slots.length : Int) = 0)))) Z (J7 ao) Z Z (Xp (v := vb (!(decide ((m.t.slots.length : Int) = 0)))) Z Z Z Z (Xb ⟨⟨bt, (congrArg Value.bool (by first | (simp only [E, G, J, O, ad, V, ae, ab, af, ac, aj, ap, aq, az, a8, a9, am, an, ao, dn, dp, b0, b1, b2, b3, b4, b5, b6, b7, b8, b9]; done) | simp [E, G, J, O, ad, V, ae, ab, af, ac, aj, ap, aq, az, a8, a9, am, an, ao, dn, dp]))⟩, (grown_trans cd d0)⟩))
 rintro fx fi ⟨⟨bq, e0⟩, d1⟩
 have dv := low0 co d1
 refine X0 e0 (fun bc => ?_) (fun bc => ?_)
 refine Xa (Xe (v := vb false) Z Z (Xb (Xt (Yk (⟨vb false, Yt Z Z, ?_, dv⟩)))))
 exact congrArg Value.bool (Xdr bc)
 have bi := Kl bc
 have bj := Km bc
 refine Xz (Xu (Ya (fun f' w' => (f' 2 = vb (((decide (m.t.kind = 4)) || (decide ((m.t.queue.length : Int) = 0))) && (((decide (m.t.kind = 5)) && inR m.t.to 1 8) || ((!(decide (m.t.kind = 5))) && (decide (m.t.to = 0)))))) ∧ fi.grownBy w' none) ?_ ?_))
 refine Xc (o' := 0) Qd bq Z Z ?_
 have br := (ce.grown0 d1)
 refine Xh (v := vi m.t.kind) X1 Z (br.cell Z) Z (X6 (q := decide (m.t.kind = 4)) Z Z Z Z (Xd (v := vb (decide (m.t.kind = 4))) Z Z ?_))
 rcases Yg (decide (m.t.kind = 4)) with al | al
 have g5 := of_decide_eq_true al
 iterate 4 refine Xj rfl rfl rfl al rfl ?_
 refine Xw (v := vb true) Z al Z Z (Xd (v := vb true) Z Z (Xg Z Z Z Z (Xc (o' := 0) Qd bq Z Z (Xg Z Z Z Z (Xh (v := vi m.t.kind) X1 Z (br.cell Z) Z (Xg Z Z Z Z (X6 (q := decide (m.t.kind = 5)) Z Z Z Z (Xg Z Z Z Z (Xd (v := vb (decide (m.t.kind = 5))) Z Z ?_)))))))))
 rcases Yg (decide (m.t.kind = 5)) with ar | ar
 have g6 := of_decide_eq_true ar
 refine Xg Z Z Z ar (Xc (o' := 7) J5 bq Z Z (Xg Z Z Z ar (Xh (v := vi m.t.to) X1 Z (br.cell Z) Z (Xg Z Z Z ar (Xn K0 (Xf Z (Xf Z (Xf Z Xm))) Z (Kk m.t.to 1 8 _) ?_)))))
 rintro _ ix ⟨rfl, cv⟩
 refine Xg Z Z Z Z (Xw (v := vb (inR m.t.to 1 8)) Z ar Z Z (Xg Z Z Z Z (Xd (v := vb (inR m.t.to 1 8)) Z Z ?_)))
 rcases Yg (inR m.t.to 1 8) with bk | bk
 iterate 4 refine Xj rfl rfl rfl bk rfl ?_
 iterate 3 refine Yu rfl rfl rfl rfl ?_
 exact Xj Z Z Z bk Z (Xg Z Z Z Z (Xw (v := vb true) Z bk Z Z (Xw (v := vb true) Z Z Z Z (Xe (v := vb true) Z Z (Xb ⟨(congrArg Value.bool (by first | (simp only [E, G, J, O, ad, V, ae, ab, af, ac, aj, ap, aq, az, a8, a9, am, an, bc, bi, bj, al, ar, bk, b0, b1, b2, b3, b4, b5, b6, b7, b8, b9]; done) | simp [E, G, J, O, ad, V, ae, ab, af, ac, aj, ap, aq, az, a8, a9, am, an, bc, bi, bj, al, ar, bk])), cv⟩)))))
 refine Xg Z Z Z bk (Xc (o' := 0) Qd bq Z Z (Xg Z Z Z bk (Xh (v := vi m.t.kind) X1 Z ((br.grown0 cv).cell Z) Z (Xg Z Z Z bk (Q1 (q := !(decide (m.t.kind = 5))) Z Z Z Z (Xg Z Z Z bk (Xd (v := vb (!(decide (m.t.kind = 5)))) Z Z ?_)))))))
 iterate 3 refine Xj rfl rfl rfl (Ks ar) rfl ?_
 exact Xg Z Z Z bk (Xp (v := vb false) Z (Ks ar) Z Z (Xg Z Z Z Z (Xp (v := vb false) Z bk Z Z (Xw (v := vb false) Z Z Z Z (Xe (v := vb false) Z Z (Xb ⟨(congrArg Value.bool (by first | (simp only [E, G, J, O, ad, V, ae, ab, af, ac, aj, ap, aq, az, a8, a9, am, an, bc, bi, bj, al, ar, bk, b0, b1, b2, b3, b4, b5, b6, b7, b8, b9]; done) | simp [E, G, J, O, ad, V, ae, ab, af, ac, aj, ap, aq, az, a8, a9, am, an, bc, bi, bj, al, ar, bk])), cv⟩))))))
 have g7 := of_decide_eq_false ar
 iterate 3 refine Xj rfl rfl rfl ar rfl ?_
 refine Xg Z Z Z Z (Xp (v := vb false) Z ar Z Z (Xg Z Z Z Z (Xd (v := vb false) Z Z (Xg Z Z Z Z (Xc (o' := 0) Qd bq Z Z (Xg Z Z Z Z (Xh (v := vi m.t.kind) X1 Z (br.cell Z) Z (Xg Z Z Z Z (Q1 (q := !(decide (m.t.kind = 5))) Z Z Z Z (Xg Z Z Z Z (Xd (v := vb (!(decide (m.t.kind = 5)))) Z Z (Xg Z Z Z (J7 ar) ?_))))))))))))
 exact Xc (o' := 7) J5 bq Z Z (Xg Z Z Z (J7 ar) (Xh (v := vi m.t.to) X1 Z (br.cell Z) Z (Xg Z Z Z (J7 ar) (X6 (q := decide (m.t.to = 0)) Z Z Z Z (Xg Z Z Z Z (Xw (v := vb (decide (m.t.to = 0))) Z (J7 ar) Z Z (Xg Z Z Z Z (Xp (v := vb (decide (m.t.to = 0))) Z Z Z Z (Xw (v := vb (decide (m.t.to = 0))) Z Z Z Z (Xe (v := vb (decide (m.t.to = 0))) Z Z (Xb ⟨(congrArg Value.bool (by first | (simp only [E, G, J, O, ad, V, ae, ab, af, ac, aj, ap, aq, az, a8, a9, am, an, bc, bi, bj, al, ar, b0, b1, b2, b3, b4, b5, b6, b7, b8, b9]; done) | simp [E, G, J, O, ad, V, ae, ab, af, ac, aj, ap, aq, az, a8, a9, am, an, bc, bi, bj, al, ar])), (World.grownBy.refl _ _)⟩)))))))))))
 have g8 := of_decide_eq_false al
 refine Xg Z Z Z al (Xc (o' := 6) Qq bq Z Z (Xg Z Z Z al (Xh (v := .slice m.qa m.t.queue.length m.qc) Ju Z (br.cell Z) Z (Xg Z Z Z al (Y1 (by kernel_rfl) Z Z (Xg Z Z Z al (X6 (q := decide ((m.t.queue.length : Int) = 0)) Z Z Z Z (Xp (v := vb (decide ((m.t.queue.length : Int) = 0))) Z al Z Z (Xd (v := vb (decide ((m.t.queue.length : Int) = 0))) Z Z ?_)))))))))
 rcases Yg (decide ((m.t.queue.length : Int) = 0)) with ai | ai
 have g9 := of_decide_eq_true ai
 refine Xg Z Z Z ai (Xc (o' := 0) Qd bq Z Z (Xg Z Z Z ai (Xh (v := vi m.t.kind) X1 Z (br.cell Z) Z (Xg Z Z Z ai (X6 (q := decide (m.t.kind = 5)) Z Z Z Z (Xg Z Z Z ai (Xd (v := vb (decide (m.t.kind = 5))) Z Z ?_)))))))
 rcases Yg (decide (m.t.kind = 5)) with au | au
 have ia := of_decide_eq_true au
 refine Xg Z Z Z au (Xc (o' := 7) J5 bq Z Z (Xg Z Z Z au (Xh (v := vi m.t.to) X1 Z (br.cell Z) Z (Xg Z Z Z au (Xn K0 (Xf Z (Xf Z (Xf Z Xm))) Z (Kk m.t.to 1 8 _) ?_)))))
 rintro _ iy ⟨rfl, cw⟩
 refine Xg Z Z Z ai (Xw (v := vb (inR m.t.to 1 8)) Z au Z Z (Xg Z Z Z ai (Xd (v := vb (inR m.t.to 1 8)) Z Z ?_)))
 rcases Yg (inR m.t.to 1 8) with bl | bl
 iterate 4 refine Xj rfl rfl rfl bl rfl ?_
 iterate 3 refine Yu rfl rfl rfl rfl ?_
 exact Xj Z Z Z bl Z (Xg Z Z Z ai (Xw (v := vb true) Z bl Z Z (Xw (v := vb true) Z ai Z Z (Xe (v := vb true) Z Z (Xb ⟨(congrArg Value.bool (by first | (simp only [E, G, J, O, ad, V, ae, ab, af, ac, aj, ap, aq, az, a8, a9, am, an, bc, bi, bj, al, ai, au, bl, b0, b1, b2, b3, b4, b5, b6, b7, b8, b9]; done) | simp [E, G, J, O, ad, V, ae, ab, af, ac, aj, ap, aq, az, a8, a9, am, an, bc, bi, bj, al, ai, au, bl])), cw⟩)))))
 refine Xg Z Z Z bl (Xc (o' := 0) Qd bq Z Z (Xg Z Z Z bl (Xh (v := vi m.t.kind) X1 Z ((br.grown0 cw).cell Z) Z (Xg Z Z Z bl (Q1 (q := !(decide (m.t.kind = 5))) Z Z Z Z (Xg Z Z Z bl (Xd (v := vb (!(decide (m.t.kind = 5)))) Z Z ?_)))))))
 iterate 3 refine Xj rfl rfl rfl (Ks au) rfl ?_
 exact Xg Z Z Z bl (Xp (v := vb false) Z (Ks au) Z Z (Xg Z Z Z ai (Xp (v := vb false) Z bl Z Z (Xw (v := vb false) Z ai Z Z (Xe (v := vb false) Z Z (Xb ⟨(congrArg Value.bool (by first | (simp only [E, G, J, O, ad, V, ae, ab, af, ac, aj, ap, aq, az, a8, a9, am, an, bc, bi, bj, al, ai, au, bl, b0, b1, b2, b3, b4, b5, b6, b7, b8, b9]; done) | simp [E, G, J, O, ad, V, ae, ab, af, ac, aj, ap, aq, az, a8, a9, am, an, bc, bi, bj, al, ai, au, bl])), cw⟩))))))
 have ib := of_decide_eq_false au
 iterate 3 refine Xj rfl rfl rfl au rfl ?_
 refine Xg Z Z Z ai (Xp (v := vb false) Z au Z Z (Xg Z Z Z ai (Xd (v := vb false) Z Z (Xg Z Z Z Z (Xc (o' := 0) Qd bq Z Z (Xg Z Z Z Z (Xh (v := vi m.t.kind) X1 Z (br.cell Z) Z (Xg Z Z Z Z (Q1 (q := !(decide (m.t.kind = 5))) Z Z Z Z (Xg Z Z Z Z (Xd (v := vb (!(decide (m.t.kind = 5)))) Z Z (Xg Z Z Z (J7 au) ?_))))))))))))
 exact Xc (o' := 7) J5 bq Z Z (Xg Z Z Z (J7 au) (Xh (v := vi m.t.to) X1 Z (br.cell Z) Z (Xg Z Z Z (J7 au) (X6 (q := decide (m.t.to = 0)) Z Z Z Z (Xg Z Z Z Z (Xw (v := vb (decide (m.t.to = 0))) Z (J7 au) Z Z (Xg Z Z Z ai (Xp (v := vb (decide (m.t.to = 0))) Z Z Z Z (Xw (v := vb (decide (m.t.to = 0))) Z ai Z Z (Xe (v := vb (decide (m.t.to = 0))) Z Z (Xb ⟨(congrArg Value.bool (by first | (simp only [E, G, J, O, ad, V, ae, ab, af, ac, aj, ap, aq, az, a8, a9, am, an, bc, bi, bj, al, ai, au, b0, b1, b2, b3, b4, b5, b6, b7, b8, b9]; done) | simp [E, G, J, O, ad, V, ae, ab, af, ac, aj, ap, aq, az, a8, a9, am, an, bc, bi, bj, al, ai, au])), (World.grownBy.refl _ _)⟩)))))))))))
 have ic := of_decide_eq_false ai
 iterate 4 refine Xj rfl rfl rfl ai rfl ?_
 iterate 3 refine Yu rfl rfl rfl rfl ?_
 refine Xj Z Z Z ai Z (Xj Z Z Z ai Z ?_)
 iterate 8 refine Yu rfl rfl rfl rfl ?_
 exact Xj Z Z Z ai Z (Xp (v := vb false) Z ai Z Z (Xe (v := vb false) Z Z (Xb ⟨(congrArg Value.bool (by first | (simp only [E, G, J, O, ad, V, ae, ab, af, ac, aj, ap, aq, az, a8, a9, am, an, bc, bi, bj, al, ai, b0, b1, b2, b3, b4, b5, b6, b7, b8, b9]; done) | simp [E, G, J, O, ad, V, ae, ab, af, ac, aj, ap, aq, az, a8, a9, am, an, bc, bi, bj, al, ai])), (World.grownBy.refl _ _)⟩)))
 rintro fy iz ⟨fa, ei⟩
 refine Xt (⟨vb (((decide (m.t.kind = 4)) || (decide ((m.t.queue.length : Int) = 0))) && (((decide (m.t.kind = 5)) && inR m.t.to 1 8) || ((!(decide (m.t.kind = 5))) && (decide (m.t.to = 0))))), Yt Z fa, ?_, (low0 dv ei)⟩)
 exact congrArg Value.bool (Xds E aj (Ku (p := numQ) ha (by omega)) (Ku (p := rightOk) hb (by omega)) bc)
end Go.Proofs.YtlhhijnmacogcaaGreatDoor
end
section
namespace Go.Proofs.YtlhhijnmacogcaaGreatDoor
open Go.RowKit Go.Dw
set_option maxRecDepth 100000
set_option maxHeartbeats 4000000
set_option linter.unusedSimpArgs false
set_option linter.unusedVariables false
theorem Xco : goFn Tryz.prog 48 = true := by kernel_rfl
theorem Ib : goFn Tryz.prog 49 = true := by kernel_rfl
theorem Rj : goFn Tryz.prog 55 = true := by kernel_rfl
theorem Xal : goFn Tryz.prog 72 = true := by kernel_rfl
theorem Ti : mkTy Tryz.prog 36 = some (33, 5, 24, some (.agg #[.int .i64 0, .int .i64 0, .bool false, .bool false, .bool false])) := by kernel_rfl
theorem Ka : zeroTy Tryz.prog 39 = some (.agg #[.int .i64 0, .int .i64 0, .int .i64 0, .int .i64 0, .int .i64 0, .slice none 0 0, .slice none 0 0, .int .i64 0]) := by kernel_rfl
theorem S9 (w : World) (xs : List Rt) (a : Option Addr) (c : Nat) (hs : SlAt w a 5 (xs.map Rt.cells)) (hc : a = none → c = 0) (hn : xs.length ≤ 1048576) : CallsR Tryz.prog 72 #[.slice a xs.length c] w (fun v w' => ∃ (a' : Option Addr) (cap' : Nat), v = .slice a' xs.length cap' ∧ OwnN w.heap.size w' a' 33 5 cap' xs.length (xs.flatMap Rt.cells) ∧ w.grownBy w' none) := by
 refine Xx (n := 5) Tryz.func72 Z Tryz.ntmps72 Z ?_
 have O := World.grownBy.refl w none
 refine Xa (Xe (v := .slice none 0 0) Z Z (Xb (Xa (Xd (v := .slice a xs.length c) Z Z (Jg (g := Rt.cells) (ys := []) (zs := xs) (lo := w.heap.size) Ti Z Qx (by omega) Vf Z Z OwnN.nil (SlAt.low hs O) hc (by first | omega | exact Nat.le_of_ble_eq_true rfl | (simp only [List.length_nil, List.length_cons, List.length_append, List.length_replicate]; omega)) (by omega) O.size Z ?_)))))
 intro G E ac J V ab
 refine Xe (v := .slice G xs.length E) Z Z (Xb (Xt ?_))
 refine ⟨.slice G xs.length E, Yt Z Z, G, E, Z, J, (low0 O V)⟩
theorem O7 (w : World) : CallsR Tryz.prog 48 #[.agg #[vi 0, vi 0, vb false, vb false, vb false, vi 0, vi 0, vb false, vb false, vb false, vi 0, vi 0, vb false, vb false, vb false, vi 0, vi 0, vb false, vb false, vb false]] w (fun v w' => ∃ (B cap : Nat), v = .slice (pa B) 4 cap ∧ w.heap.size ≤ B ∧ Dw.Own w' B 33 5 cap 4 (zeros4.flatMap Rt.cells) ∧ w.grownBy w' none) := by
 refine Xx (n := 5) Tryz.func48 Z Tryz.ntmps48 Z ?_
 have ai := World.grownBy.refl w none
 refine Xa (Y7 (v := .agg #[vi 0, vi 0, vb false, vb false, vb false, vi 0, vi 0, vb false, vb false, vb false, vi 0, vi 0, vb false, vb false, vb false, vi 0, vi 0, vb false, vb false, vb false]) (cs := #[vi 0, vi 0, vb false, vb false, vb false, vi 0, vi 0, vb false, vb false, vb false, vi 0, vi 0, vb false, vb false, vb false, vi 0, vi 0, vb false, vb false, vb false]) Z Z Z ?_)
 intro ad ak G
 have al := Yd G ai
 have J := low0 ai G.grw
 refine Xe (v := .slice none 0 0) Z Z (Xb (Xa ?_))
 have aj : Blk ak ad 72 (zeros4.flatMap Rt.cells).toArray := G.blk
 refine Ps Mw Z (by omega) Z (Xn Xal (Xf Z Xm) Z (S9 _ zeros4 _ _ (Jo Qx aj) (fun h => by cases h) (by first | omega | exact Nat.le_of_ble_eq_true rfl | (simp only [List.length_nil, List.length_cons, List.length_append, List.length_replicate]; omega))) ?_)
 rintro _ am ⟨O, E, rfl, V, ac⟩
 have ab := OwnN.mono V J.size
 refine Xe (v := .slice O 4 E) Z Z (Xb (Xt ?_))
 obtain ⟨ae, af, ag, ah⟩ := OwnN.some_ ab (by decide)
 refine ⟨.slice O 4 E, Yt Z Z, ae, E, by rw [af], ag, ah, (low0 J ac)⟩
theorem He (k to : Int) (l : Lab) (hk : ((decide (k = 2)) || (decide (k = 3))) = true) (hok : newOk k l to = true) (w : World) : CallsR Tryz.prog 24 #[vi k, .agg #[vi l.s, vi l.v], vi to] w (fun v w' => ∃ (S sc : Nat), v = .tuple #[.agg #[vi k, vi l.s, vi l.v, vi 0, vi 0, .slice (pa S) 4 sc, .slice none 0 0, vi to], vb true] ∧ w.heap.size ≤ S ∧ Dw.Own w' S 33 5 sc 4 (zeros4.flatMap Rt.cells) ∧ w.grownBy w' none) := by
 refine Xx (n := 27) Tryz.func24 Z Tryz.ntmps24 Z ?_
 have bd := World.grownBy.refl w none
 have hlit : thingOk (⟨k, l, 0, 0, zeros4, [], to⟩ : Th) = true := (Ud hk).symm.trans hok
 refine Xa (Y7 (v := .agg #[vi l.s, vi l.v]) (cs := #[vi l.s, vi l.v]) Z Z Z ?_)
 intro bi bn ae
 have bf := Yd ae bd
 have aj := low0 bd ae.grw
 refine Yf (cs := #[vi 0, vi 0, vi 0, vi 0, vi 0, .slice none 0 0, .slice none 0 0, vi 0]) Ka Z Z ?_
 intro ba bp V
 have bg := Yd V aj
 have an := Xo V (ae.blk).lt
 have ak := low0 aj V.grw
 refine Xe (v := vb false) Z Z (Xb (Xa (Xd (v := vi k) Z Z ?_)))
 have am := (ae.blk.grown0 V.grw)
 refine Xr (vs := [vi l.s, vi l.v]) J6 Z Z (am.rangeL 0 2 Z) Z (Xd (v := vi to) Z Z (Yv (ps := [(0, vi k), (1, .agg #[vi l.s, vi l.v]), (6, vi to)]) (v := .agg #[vi k, vi l.s, vi l.v, vi 0, vi 0, .slice none 0 0, .slice none 0 0, vi to]) (Xk Z (Xk Z (Xk Z X5))) (by kernel_rfl) Z (Yf (cs := #[vi 0, vi 0, vi 0, vi 0, vi 0, .slice none 0 0, .slice none 0 0, vi 0]) Ka Z Z ?_)))
 intro bb bq O
 have bh := Yd O ak
 have ao := Xo O (am).lt
 have aq := Xo O (V.blk).lt
 refine Xy (vs := [vi k, vi l.s, vi l.v, vi 0, vi 0, .slice none 0 0, .slice none 0 0, vi to]) (cs' := #[vi k, vi l.s, vi l.v, vi 0, vi 0, .slice none 0 0, .slice none 0 0, vi to]) Ys Z Z Z (by simp [Value.oneCell']) O.blk (Nat.le_of_ble_eq_true Z) Z ?_
 intro be ac
 have al := low1 (low0 ak O.grw) ac.grw (by omega)
 refine Xb (Xq (Ya (fun f' w' => (f' 6 = pt ba 0 ∧ f' 7 = vb false ∧ f' 8 = pt bb 0 ∧ f' 18 = vb ((decide (k = 2)) || (decide (k = 3)))) ∧ be = w') ?_ ?_))
 refine Xd (v := vi k) Z Z (X6 (q := decide (k = 2)) Z Z Z Z (Xd (v := vb (decide (k = 2))) Z Z ?_))
 rcases Yg (decide (k = 2)) with G | G
 have bl := of_decide_eq_true G
 exact Xj Z Z Z G Z (Xj Z Z Z G Z (Xw (v := vb true) Z G Z Z (Xb ⟨⟨Z, Z, Z, (cB (by simp [G, hk, hlit]))⟩, Z⟩)))
 have bm := of_decide_eq_false G
 exact Xg Z Z Z G (Xd (v := vi k) Z Z (Xg Z Z Z G (X6 (q := decide (k = 3)) Z Z Z Z (Xp (v := vb (decide (k = 3))) Z G Z Z (Xb ⟨⟨Z, Z, Z, (cB (by simp [G, hk, hlit]))⟩, Z⟩)))))
 rintro bk br ⟨⟨aw, bj, ai, bc⟩, rfl⟩
 refine Qa bc hk (X2 (Yv (ps := []) (v := .agg #[vi 0, vi 0, vb false, vb false, vb false, vi 0, vi 0, vb false, vb false, vb false, vi 0, vi 0, vb false, vb false, vb false, vi 0, vi 0, vb false, vb false, vb false]) X5 (by kernel_rfl) Z ?_))
 have az := ((V.blk.grown0 O.grw).gn ac.grw)
 refine Xn Xco (Xf Z Xm) Z (O7 _) ?_
 rintro _ bt ⟨J, E, rfl, ab, a9, ah⟩
 have av := nt al.size ab
 have ap := nl (((am.grown0 O.grw).gn ac.grw)).lt ab
 have ar := nl (az).lt ab
 have au := nl (ac.blk).lt ab
 refine Xc (o' := 5) Qj ai Z Z (Yc (v := .slice (pa J) 4 E) (cs' := #[vi k, vi l.s, vi l.v, vi 0, vi 0, .slice (pa J) 4 E, .slice none 0 0, vi to]) Jd Z Z Z (ac.blk.grown0 ah) (Nat.le_of_ble_eq_true Z) Z ?_)
 intro bu ad
 refine Xb (Xu (Xq (Xa (Xr (vs := [vi k, vi l.s, vi l.v, vi 0, vi 0, .slice (pa J) 4 E, .slice none 0 0, vi to]) Ys ai Z (ad.blk.rangeL 0 8 Z) Z ?_))))
 have a8 := (a9.gn ad.grw)
 refine Xn Ib (Xf Z Xm) Z (G4 (⟨⟨k, l, 0, 0, zeros4, [], to⟩, some ⟨J, 0, none⟩, E, none, 0⟩ : MTh) _ (Own.sl Qx a8) SlAt.nil (by first | omega | exact Nat.le_of_ble_eq_true rfl | (simp only [List.length_nil, List.length_cons, List.length_append, List.length_replicate]; omega)) (by first | omega | exact Nat.le_of_ble_eq_true rfl | (simp only [List.length_nil, List.length_cons, List.length_append, List.length_replicate]; omega))) ?_
 rintro _ bv ⟨rfl, af⟩
 refine Yn (b' := !thingOk (⟨k, l, 0, 0, zeros4, [], to⟩ : Th)) Z Z Z (Xb (Y4 Z (Ks hlit) (Xz (Xu (Xa (Xr (vs := [vi k, vi l.s, vi l.v, vi 0, vi 0, .slice (pa J) 4 E, .slice none 0 0, vi to]) Ys ai Z ((ad.blk.grown0 af).rangeL 0 8 Z) Z (Xy (vs := [vi k, vi l.s, vi l.v, vi 0, vi 0, .slice (pa J) 4 E, .slice none 0 0, vi to]) (cs' := #[vi k, vi l.s, vi l.v, vi 0, vi 0, .slice (pa J) 4 E, .slice none 0 0, vi to]) Ys aw Z Z (by simp [Value.oneCell']) (((az.grown0 ah).gn ad.grw).grown0 af) (Nat.le_of_ble_eq_true Z) Z ?_)))))))
 intro bw ag
 refine Xe (v := vb true) Z Z (Xb (Xt ?_))
 refine ⟨.tuple #[.agg #[vi k, vi l.s, vi l.v, vi 0, vi 0, .slice (pa J) 4 E, .slice none 0 0, vi to], vb true], Ng Z (Yh (vs := [vi k, vi l.s, vi l.v, vi 0, vi 0, .slice (pa J) 4 E, .slice none 0 0, vi to]) Ys aw Z (ag.blk.rangeL 0 8 Z)) Z, J, E, Z, av, ((a8.grown0 af).gn ag.grw), (low1 (low0 (low1 (low0 al ah) ad.grw (by omega)) af) ag.grw (by omega))⟩
end Go.Proofs.YtlhhijnmacogcaaGreatDoor
end
