/- Laws and walks: my templates, and what a program of mine (gen.py) printed out of the functions; only what the row reaches. -/
import Derived.WalkKit
import Derived.Lib.Hide
import Derived.KernelRfl
import Derived.Orders
import Derived.Deep.MidRow
import Derived.IntWalk
import Derived.Conc.CompanyCalls
import Derived.RunT
import Derived.Conc.Listed
import Derived.Conc.Own5
import Derived.Calls
import Derived.AtR
import Derived.Laws.MakeOwn
import Derived.Maps.AppendAt
import Derived.Laws.OwnMore
import Derived.RangeFuncNested
import Derived.RangeFuncCalls
import Derived.RangeFuncLeaves
import Derived.RangeFuncBound
import Derived.Shelf.Abstract
import Derived.LoopIn
import Derived.LoopNIn
import Derived.OrdersIn
import Derived.Laws.Strings
import Derived.Laws.Concat
import Derived.Laws.BytesString
import Derived.Conc.CompanyDraw
import Derived.Conc.Own3
import Derived.Conc.Own4
import Derived.Conc.EntryLaws
import Derived.Conc.Beside
import Derived.Conc.Machine
import Derived.Conc.CrowdTrace
import Derived.Conc.CrowdInv
import Derived.Conc.CrowdStepW
import Derived.Conc.CrowdCom2
import Derived.Conc.WgGenN3
import Derived.Conc.WgArith
import Derived.Conc.SmallLaws
import Derived.ProofKit
import Derived.Deep.Slices
import Derived.Carry
import Derived.Conc.LeavingOf
import Derived.Test.YtldnkinaedgnpaaProg
namespace Go.Dw
abbrev vi (n : Int) : Value := .int .i64 n
abbrev pt (b o : Nat) : Value := .pointer (some ⟨b, o, none⟩)
abbrev pa (b : Nat) : Option Addr := some ⟨b, 0, none⟩
abbrev vb (b : Bool) : Value := .bool b
theorem Z.{u} {α : Sort u} {a : α} : a = a := rfl
end Go.Dw
section
namespace Go.Dw
open Go.RowKit
abbrev Fr := Nat → Value
def up (f : Fr) (d : Nat) (v : Value) : Fr := fun i => bif Nat.beq i d then v else f i
theorem up_eq (f : Fr) (d : Nat) (v : Value) (i : Nat) : up f d v i = if i = d then v else f i := by
  unfold up
  by_cases h : i = d
  · subst h; simp
  · have : Nat.beq i d = false := by
      cases hb : Nat.beq i d with
      | false => rfl
      | true => exact absurd (Nat.eq_of_beq_eq_true hb) h
    simp [this, h]
def ev (f : Fr) : Operand → Value
  | .tmp t => f t
  | .const v => v
  | .global g => .pointer (some ⟨g, 0, none⟩)
  | .func k => .func (.func k) #[] #[]
structure FEq (n : Nat) (a : Act) (f : Fr) : Prop where
  defers : a.defers = []
  size : a.tmps.size = n
  at_ : ∀ i, a.tmps.getD i undef = f i
theorem FEq.eval {n : Nat} {a : Act} {f : Fr} (h : FEq n a f) : a.eval = ev f := by
  funext x
  cases x with
  | tmp t => exact h.at_ t
  | const v => rfl
  | global g => rfl
  | func k => rfl
theorem FEq.put {n : Nat} {a : Act} {f : Fr} (h : FEq n a f) {d : Nat} (hd : Nat.blt d n = true) (v : Value) : FEq n (a.put (some d) v) (up f d v) := by
  have hd' : d < n := by simpa [Nat.blt_eq] using hd
  refine ⟨h.defers, by simp [Act.put, h.size], fun i => ?_⟩
  rw [up_eq, ← h.at_ i]
  by_cases hi : i = d
  · subst hi
    simp [Act.put, Array.getD, h.size, hd']
  · have hne : d ≠ i := fun e => hi e.symm
    simp [Act.put, hi, Array.getElem?_setIfInBounds_ne hne]
def upo (f : Fr) : Option Nat → Value → Fr
  | some d, v => up f d v
  | none, _ => f
def okd (n : Nat) : Option Nat → Bool
  | some d => Nat.blt d n
  | none => true
theorem FEq.puto {n : Nat} {a : Act} {f : Fr} (h : FEq n a f) {d : Option Nat} (hd : okd n d = true) (v : Value) : FEq n (a.put d v) (upo f d v) := by
  cases d with
  | none => exact h
  | some d => exact h.put hd v
def Wpf (P : Program) (n : Nat) (Q : Exit → Fr → World → Prop) (c : Code) (f : Fr) (w : World) : Prop :=
  ∀ a, FEq n a f → c.wp P (fun e a' w' => ∃ f', FEq n a' f' ∧ Q e f' w') a w
def thn (K : Fr → World → Prop) (Q : Exit → Fr → World → Prop) : Exit → Fr → World → Prop
  | .normal, f, w => K f w
  | e, f, w => Q e f w
def blk (id : Nat) (Q : Exit → Fr → World → Prop) : Exit → Fr → World → Prop
  | .exit i, f, w => if i = id then Q .normal f w else Q (.exit i) f w
  | e, f, w => Q e f w
section
variable {P : Program} {n : Nat} {Q : Exit → Fr → World → Prop} {f : Fr} {w : World}
theorem Wpf.mono {Q' : Exit → Fr → World → Prop} {c : Code} (h : Wpf P n Q c f w) (hq : ∀ e f w, Q e f w → Q' e f w) : Wpf P n Q' c f w :=
  fun a ha => wp_mono (h a ha) fun _ _ _ ⟨f', hf, hQ⟩ => ⟨f', hf, hq _ _ _ hQ⟩
theorem wpf_skip (h : Q .normal f w) : Wpf P n Q .skip f w := fun _ ha => wp_skip ⟨f, ha, h⟩
theorem wpf_ret (h : Q .ret f w) : Wpf P n Q .ret f w := fun _ ha => wp_ret ⟨f, ha, h⟩
theorem wpf_exit {id : Nat} (h : Q (.exit id) f w) : Wpf P n Q (.exit id) f w := fun _ ha => wp_exit ⟨f, ha, h⟩
theorem wpf_seq {x y : Code} (h : Wpf P n (thn (Wpf P n Q y) Q) x f w) : Wpf P n Q (.seq x y) f w := fun a ha =>
  wp_seq (wp_mono (h a ha) fun e a' w' ⟨f', hf, hQ⟩ => by
    cases e with
    | normal => exact hQ a' hf
    | exit i => exact ⟨f', hf, hQ⟩
    | goto l => exact ⟨f', hf, hQ⟩
    | ret => exact ⟨f', hf, hQ⟩
    | panic c => exact ⟨f', hf, hQ⟩
    | outgrown => exact ⟨f', hf, hQ⟩)
theorem wpf_seq_mid {x y : Code} (M : Fr → World → Prop) (h : Wpf P n (thn M Q) x f w) (hM : ∀ f w, M f w → Wpf P n Q y f w) : Wpf P n Q (.seq x y) f w :=
  wpf_seq (h.mono fun e f w hq => by cases e <;> first | exact hM _ _ hq | exact hq)
theorem wpf_block {id : Nat} {c : Code} (h : Wpf P n (blk id Q) c f w) : Wpf P n Q (.block id c) f w := fun a ha =>
  wp_block (wp_mono (h a ha) fun e a' w' ⟨f', hf, hQ⟩ => by
    cases e with
    | exit i =>
      simp only [blk] at hQ
      simp only [Exit.inBlock]
      by_cases hi : i = id
      · rw [if_pos hi] at hQ ⊢; exact ⟨f', hf, hQ⟩
      · rw [if_neg hi] at hQ ⊢; exact ⟨f', hf, hQ⟩
    | normal => exact ⟨f', hf, hQ⟩
    | goto l => exact ⟨f', hf, hQ⟩
    | ret => exact ⟨f', hf, hQ⟩
    | panic c => exact ⟨f', hf, hQ⟩
    | outgrown => exact ⟨f', hf, hQ⟩)
theorem wpf_cond {c : Operand} {x y : Code} {b : Bool} (hc : ev f c = .bool b) (ht : b = true → Wpf P n Q x f w) (hf : b = false → Wpf P n Q y f w) :
    Wpf P n Q (.cond c x y) f w := fun a ha =>
  wp_cond_split (t := b) (by rw [ha.eval]; exact hc) (fun h => ht h a ha) (fun h => hf h a ha)
theorem wpf_condt {c : Operand} {x y : Code} {b : Bool} (hc : ev f c = .bool b) (hb : b = true) (h : Wpf P n Q x f w) : Wpf P n Q (.cond c x y) f w :=
  wpf_cond hc (fun _ => h) (fun e => by rw [hb] at e; cases e)
theorem wpf_condf {c : Operand} {x y : Code} {b : Bool} (hc : ev f c = .bool b) (hb : b = false) (h : Wpf P n Q y f w) : Wpf P n Q (.cond c x y) f w :=
  wpf_cond hc (fun e => by rw [hb] at e; cases e) (fun _ => h)
theorem thn_n {K : Fr → World → Prop} (h : K f w) : thn K Q .normal f w := h
theorem thn_r {K : Fr → World → Prop} (h : Q .ret f w) : thn K Q .ret f w := h
theorem thn_e {K : Fr → World → Prop} {i : Nat} (h : Q (.exit i) f w) : thn K Q (.exit i) f w := h
theorem blk_n {id : Nat} (h : Q .normal f w) : blk id Q .normal f w := h
theorem blk_r {id : Nat} (h : Q .ret f w) : blk id Q .ret f w := h
theorem blk_e {id : Nat} (h : Q .normal f w) : blk id Q (.exit id) f w := by simpa [blk] using h
theorem wpf_loopN {c : Code} (I : Nat → Fr → World → Prop) (m₀ : Nat) (h₀ : I m₀ f w)
    (round : ∀ m f w, I m f w → Wpf P n (thn (fun f' w' => ∃ m', m' < m ∧ I m' f' w') Q) c f w) : Wpf P n Q (.loop c) f w := by
  intro a ha b k cs
  have key : ∀ m f a w, I m f w → FEq n a f →
      ∃ e a' w', (∃ f', FEq n a' f' ∧ Q e f' w') ∧ Arrives P (lone (b.at a (.code c :: .inLoop c :: k)) cs w) b k cs e a' w' := by
    intro m
    induction m using Nat.strongRecOn with
    | _ m ih =>
      intro f a w hI ha
      obtain ⟨e, a₁, w₁, ⟨f₁, hf₁, hq⟩, harr⟩ := round m f w hI a ha b (.inLoop c :: k) cs
      cases e with
      | normal =>
        obtain ⟨m', hlt, hI₁⟩ := hq
        obtain ⟨e₂, a₂, w₂, hq₂, harr₂⟩ := ih m' hlt f₁ a₁ w₁ hI₁ hf₁
        exact ⟨e₂, a₂, w₂, hq₂, .of_steps (Steps.trans harr (.one step_inLoop)) harr₂⟩
      | exit id => exact ⟨_, a₁, w₁, ⟨f₁, hf₁, hq⟩, .pass (x := .inLoop c) rfl (fun _ _ => .inl (by simp)) harr⟩
      | goto l => exact ⟨_, a₁, w₁, ⟨f₁, hf₁, hq⟩, .pass (x := .inLoop c) rfl (fun _ _ => .inl (by simp)) harr⟩
      | ret => exact ⟨_, a₁, w₁, ⟨f₁, hf₁, hq⟩, .pass (x := .inLoop c) rfl (fun _ _ => .inl (by simp)) harr⟩
      | panic ch => exact ⟨_, a₁, w₁, ⟨f₁, hf₁, hq⟩, .pass (x := .inLoop c) rfl (fun _ _ => .inl (by simp)) harr⟩
      | outgrown => exact ⟨_, a₁, w₁, ⟨f₁, hf₁, hq⟩, .pass (x := .inLoop c) rfl (fun _ _ => .inl (by simp)) harr⟩
  obtain ⟨e, a', w', hq, harr⟩ := key m₀ f a w h₀ ha
  exact ⟨e, a', w', hq, .of_steps (.one step_loop) harr⟩
end
def lget : List Value → Nat → Value
  | [], _ => undef
  | v :: _, 0 => v
  | _ :: l, i + 1 => lget l i
theorem lget_eq : ∀ (l : List Value) (i : Nat), lget l i = l[i]?.getD undef
  | [], _ => by simp [lget]
  | v :: l, 0 => by simp [lget]
  | v :: l, i + 1 => by simp [lget, lget_eq l i]
def f0 (args : Array Value) : Fr := fun i => lget args.toList i
def resV (P : Program) (fn : Func) (f : Fr) (w : World) (v : Value) : Prop := ∀ tmps : Array Value, (∀ i, tmps.getD i undef = f i) → (results fn tmps).run P w = .ok v w
def endQ (P : Program) (fn : Func) (R : Value → World → Prop) : Exit → Fr → World → Prop
  | .normal, f, w | .ret, f, w => ∃ v, resV P fn f w v ∧ R v w
  | _, _, _ => False
theorem calls_of_wpf {P : Program} {k : FuncId} {fn : Func} {c : Code} {args : Array Value} {w : World} {R : Value → World → Prop} {n : Nat}
    (hf : P.funcs[k]? = some fn) (hb : fn.body = some c) (hn : fn.ntmps = n) (hs : Nat.ble args.size n = true)
    (h : Wpf P n (endQ P fn R) c (f0 args) w) : Calls P k args w fun e w' => ∃ v, e = .returned v ∧ R v w' := by
  have hs' : args.size ≤ n := by simpa [Nat.ble_eq] using hs
  refine calls_of_wp hf hb ?_
  refine wp_mono (h _ ⟨rfl, by simp [hn]; omega, fun i => ?_⟩) fun e a w ⟨f', hf', hQ⟩ => ?_
  · simp only [f0, lget_eq, Array.getD_eq_getD_getElem?, Array.getElem?_toList]
    by_cases hi : i < args.size
    · rw [Array.getElem?_append_left hi]
    · rw [Array.getElem?_append_right (by omega), Array.getElem?_eq_none (by omega : args.size ≤ i)]
      by_cases h2 : i - args.size < fn.ntmps - args.size
      · simp [h2]
      · rw [Array.getElem?_eq_none (by simp; omega)]
  · cases e with
    | normal => obtain ⟨v, hv, hR⟩ := hQ; exact ⟨hf'.defers, v, hv _ hf'.at_, v, rfl, hR⟩
    | ret => obtain ⟨v, hv, hR⟩ := hQ; exact ⟨hf'.defers, v, hv _ hf'.at_, v, rfl, hR⟩
    | exit i => exact hQ.elim
    | goto l => exact hQ.elim
    | panic c => exact hQ.elim
    | outgrown => exact hQ.elim
theorem res0 {P : Program} {fn : Func} {f : Fr} {w : World} (h : fn.results = #[]) : resV P fn f w (.tuple #[]) := fun _ _ => results_none h _ _ _
theorem res1 {P : Program} {fn : Func} {f : Fr} {w : World} {t : Nat} {v : Value} (h : fn.results = #[.tmp t]) (hv : f t = v) : resV P fn f w v := fun tm ht => by
  rw [results_tmp h, ht, hv]
theorem res2 {P : Program} {fn : Func} {f : Fr} {w : World} {t u : Nat} {v x : Value} (h : fn.results = #[.tmp t, .tmp u]) (hv : f t = v) (hx : f u = x) : resV P fn f w (.tuple #[v, x]) := fun tm ht => by
  rw [results_tmp2 h, ht, ht, hv, hx]
def WpO (P : Program) (n : Nat) (ops : Array Oper) (K : Fr → World → Prop) (l : List Oper) (f : Fr) (w : World) : Prop :=
  ∀ a, FEq n a f → ∀ Q : Exit → Act → World → Prop, (∀ a' w' f', FEq n a' f' → K f' w' → Q .normal a' w') → wpList P ops Q l a w
section
variable {P : Program} {n : Nat} {ops : Array Oper} {K : Fr → World → Prop} {l : List Oper} {f : Fr} {w w' : World} {o : Oper} {v : Value}
theorem WpO.mono {K' : Fr → World → Prop} (h : WpO P n ops K l f w) (hk : ∀ f w, K f w → K' f w) : WpO P n ops K' l f w :=
  fun a ha Q hQ => h a ha Q fun a' w' f' hf hK => hQ a' w' f' hf (hk _ _ hK)
theorem wpf_region {id : Nat} {Q : Exit → Fr → World → Prop} (h : WpO P n l.toArray (Q .normal) l f w) : Wpf P n Q (.region id l.toArray false) f w := fun a ha =>
  wp_region_lit (h a ha _ fun _ _ f' hf hK => ⟨f', hf, hK⟩)
theorem wpf_seq_region {id : Nat} {Q : Exit → Fr → World → Prop} {y : Code} (h : WpO P n l.toArray (Wpf P n Q y) l f w) : Wpf P n Q (.seq (.region id l.toArray false) y) f w :=
  wpf_seq (wpf_region h)
theorem wpf_seq_region_mid {id : Nat} {Q : Exit → Fr → World → Prop} {y : Code} (M : Fr → World → Prop) (h : WpO P n l.toArray M l f w) (hM : ∀ f w, M f w → Wpf P n Q y f w) : Wpf P n Q (.seq (.region id l.toArray false) y) f w :=
  wpf_seq_region (h.mono hM)
theorem wpo_nil (h : K f w) : WpO P n ops K [] f w := fun a ha _ hQ => hQ a w f ha h
theorem wpo_val (hg : o.guard = none) (hd : okd n o.dst = true) (hr : (execOp (ev f) o).run P w = .ok (.value v) w') (h : WpO P n ops K l (upo f o.dst v) w') : WpO P n ops K (o :: l) f w :=
  fun a ha Q hQ => wpList_plain hg fun K' hK' => by
    unfold Oper.wp
    rw [ha.eval, hr]
    exact hK' _ _ (h _ (ha.puto hd v) Q hQ)
theorem wpo_unit (hg : o.guard = none) (hd : o.dst = none) (hr : (execOp (ev f) o).run P w = .ok .skip w') (h : WpO P n ops K l f w') : WpO P n ops K (o :: l) f w :=
  fun a ha Q hQ => wpList_plain hg fun K' hK' => by
    unfold Oper.wp
    rw [ha.eval, hr]
    refine hK' _ _ (h _ ?_ Q hQ)
    rw [hd]
    exact ha
theorem wpo_enter {k : FuncId} {args : Array Value} {R : Value → World → Prop} (hg : o.guard = none) (hd : okd n o.dst = true) (hr : (execOp (ev f) o).run P w = .ok (.enter k args) w')
    (hc : Calls P k args w' fun e w'' => ∃ v, e = .returned v ∧ R v w'') (h : ∀ v w'', R v w'' → WpO P n ops K l (upo f o.dst v) w'') : WpO P n ops K (o :: l) f w :=
  fun a ha Q hQ => wpList_plain hg fun K' hK' => by
    unfold Oper.wp
    rw [ha.eval, hr]
    show Calls P k args w' _
    refine hc.mono fun e w'' ⟨v, he, hR⟩ => ?_
    subst he
    exact hK' _ _ (h v w'' hR _ (ha.puto hd v) Q hQ)
theorem yielded_eq {a : Act} (ha : FEq n a f) {j d : Nat} {oj : Oper} (hj : ops[j]? = some oj) (hdj : oj.dst = some d) {b : Bool} (hb : f d = .bool b) : yielded ops a.tmps j = some b := by
  have h1 := ha.at_ d
  rw [hb] at h1
  have h2 : a.tmps[d]? = some (.bool b) := by
    cases h3 : a.tmps[d]? with
    | none => rw [Array.getD_eq_getD_getElem?, h3] at h1; cases h1
    | some v => rw [Array.getD_eq_getD_getElem?, h3] at h1; simpa using h1
  simp [yielded, hj, hdj, h2]
theorem yielded_undef {a : Act} (ha : FEq n a f) {j d : Nat} {oj : Oper} (hj : ops[j]? = some oj) (hdj : oj.dst = some d) (hb : f d = undef) : yielded ops a.tmps j = none := by
  have h1 := ha.at_ d
  rw [hb, Array.getD_eq_getD_getElem?] at h1
  simp only [yielded, hj, hdj, Option.bind_some]
  cases h3 : a.tmps[d]? with
  | none => rfl
  | some v =>
    rw [h3] at h1
    have : v = undef := h1
    subst this
    rfl
theorem wpo_run {d : Option Nat} {op : Op} {ty : TypeId} {pos : String} {aft : Array Edge} {j dj : Nat} {b b' : Bool} {oj : Oper} (hj : ops[j]? = some oj) (hdj : oj.dst = some dj) (hb : f dj = .bool b') (hbb : b' = b)
    (h : WpO P n ops K (⟨d, op, ty, pos, aft, none⟩ :: l) f w) : WpO P n ops K (⟨d, op, ty, pos, aft, some (j, b)⟩ :: l) f w := fun a ha Q hQ => by
  have h1 := h a ha Q hQ
  unfold wpList at h1 ⊢
  rw [if_pos (by simp [Region.wanted])] at h1
  rw [if_pos (by simp [Region.wanted, yielded_eq ha hj hdj hb, hbb])]
  exact h1
theorem wpo_pass {d : Nat} {op : Op} {ty : TypeId} {pos : String} {aft : Array Edge} {j dj : Nat} {b b' : Bool} {oj : Oper} (hj : ops[j]? = some oj) (hdj : oj.dst = some dj) (hb : f dj = .bool b') (hbb : b' = !b)
    (hd : Nat.blt d n = true) (h : WpO P n ops K l (up f d undef) w) : WpO P n ops K (⟨some d, op, ty, pos, aft, some (j, b)⟩ :: l) f w := fun a ha Q hQ => by
  have h1 := h _ (ha.put hd undef) Q hQ
  unfold wpList
  rw [if_neg (by simp [Region.wanted, yielded_eq ha hj hdj hb, hbb])]
  exact h1
theorem wpo_passu {d : Nat} {op : Op} {ty : TypeId} {pos : String} {aft : Array Edge} {j dj : Nat} {b : Bool} {oj : Oper} (hj : ops[j]? = some oj) (hdj : oj.dst = some dj) (hb : f dj = undef)
    (hd : Nat.blt d n = true) (h : WpO P n ops K l (up f d undef) w) : WpO P n ops K (⟨some d, op, ty, pos, aft, some (j, b)⟩ :: l) f w := fun a ha Q hQ => by
  have h1 := h _ (ha.put hd undef) Q hQ
  unfold wpList
  rw [if_neg (by simp [Region.wanted, yielded_undef ha hj hdj hb])]
  exact h1
end
theorem b0 (x : Bool) : (x && true) = x := Bool.and_true x
theorem b1 (x : Bool) : (true && x) = x := Bool.true_and x
theorem b2 (x : Bool) : (x && false) = false := Bool.and_false x
theorem b3 (x : Bool) : (false && x) = false := Bool.false_and x
theorem b4 (x : Bool) : (x || true) = true := Bool.or_true x
theorem b5 (x : Bool) : (true || x) = true := Bool.true_or x
theorem b6 (x : Bool) : (x || false) = x := Bool.or_false x
theorem b7 (x : Bool) : (false || x) = x := Bool.false_or x
theorem b8 : (!true) = false := rfl
theorem b9 : (!false) = true := rfl
end Go.Dw
end
section
namespace Go.Dw
open Go.RowKit
def Blk (w : World) (b : Nat) (T : TypeId) (cs : Array Value) : Prop := w.heap[b]? = some (.cells cs T (0, 0))
section
variable {w w' : World} {b : Nat} {T : TypeId} {cs : Array Value}
theorem Blk.lt (h : Blk w b T cs) : b < w.heap.size := (Array.getElem?_eq_some_iff.1 h).1
theorem Blk.cell (h : Blk w b T cs) {i : Nat} {v : Value} (hv : cs[i]? = some v) : w.cell? ⟨b, i, none⟩ = some v := by
  unfold Blk at h
  simp [World.cell?, h, hv]
theorem Blk.froz (h : Blk w b T cs) (i : Nat) : w.frozen? ⟨b, i, none⟩ = false := by
  unfold Blk at h
  simp [World.frozen?, h]
theorem Blk.range (h : Blk w b T cs) {o : Nat} {vs : List Value} (hv : ∀ j v, vs[j]? = some v → cs[o + j]? = some v) : w.rangeAt b o vs := fun j v hj => h.cell (hv j v hj)
theorem Blk.all (h : Blk w b T cs) : w.rangeAt b 0 cs.toList := h.range fun j v hj => by simpa using hj
theorem Blk.grown (h : Blk w b T cs) {r : Option Nat} (hg : w.grownBy w' r) (hne : some b ≠ r) : Blk w' b T cs := (hg.block b h.lt hne).trans h
theorem Blk.grown0 (h : Blk w b T cs) (hg : w.grownBy w' none) : Blk w' b T cs := h.grown hg (by simp)
theorem range_grown {o : Nat} {vs : List Value} (h : w.rangeAt b o vs) {r : Option Nat} (hg : w.grownBy w' r) (hne : some b ≠ r) : w'.rangeAt b o vs := fun j v hj =>
  hg.cell (h j v hj) hne
end
structure NewB (w w' : World) (B : Nat) (T : TypeId) (cs : Array Value) : Prop where
  eq : B = w.heap.size
  blk : Blk w' B T cs
  grw : w.grownBy w' none
  sz : w'.heap.size = w.heap.size + 1
structure SetB (w w' : World) (b : Nat) (T : TypeId) (cs : Array Value) : Prop where
  blk : Blk w' b T cs
  grw : w.grownBy w' (some b)
  sz : w'.heap.size = w.heap.size
theorem newB_alloc (w : World) (T : TypeId) (cs : Array Value) : NewB w (w.alloc (.cells cs T)) w.heap.size T cs :=
  ⟨rfl, by show (w.heap.push _)[w.heap.size]? = _; simp, World.grownBy_alloc _ _ _, by simp⟩
theorem setB_setRow {w : World} {b : Nat} {T : TypeId} {cs : Array Value} (h : Blk w b T cs) (cs' : Array Value) : SetB w (w.setRow b cs') b T cs' :=
  ⟨setRow_heap w b cs cs' T _ h, ⟨rfl, rfl, rfl, by simp [World.setRow], fun i _ hne => by
    have : b ≠ i := fun e => hne (by rw [e])
    simp [World.setRow, Array.getElem?_modify, this]⟩, by simp [World.setRow]⟩
theorem grown_trans {a b c : World} {r : Option Nat} (h : a.grownBy b r) (k : b.grownBy c r) : a.grownBy c r :=
  ⟨k.os.trans h.os, k.tape.trans h.tape, k.output.trans h.output, Nat.le_trans h.size k.size, fun i hi hne => (k.block i (Nat.lt_of_lt_of_le hi h.size) hne).trans (h.block i hi hne)⟩
theorem below_of_grown {w w' : World} {r : Option Nat} {B : Nat} (hg : w.grownBy w' r) (hB : B ≤ w.heap.size) (hr : ∀ k, r = some k → B ≤ k) : Below B w w' :=
  (Below.refl B w).grown hg hB hr
theorem below_none {w w' : World} {B : Nat} (hg : w.grownBy w' none) (hB : B ≤ w.heap.size) : Below B w w' := below_of_grown hg hB (by simp)
theorem low0 {w a b : World} {r : Option Nat} (h : w.grownBy a r) (hg : a.grownBy b none) : w.grownBy b r :=
  ⟨hg.os.trans h.os, hg.tape.trans h.tape, hg.output.trans h.output, Nat.le_trans h.size hg.size, fun i hi hne => (hg.block i (Nat.lt_of_lt_of_le hi h.size) (by simp)).trans (h.block i hi hne)⟩
theorem low1 {w a b : World} {r : Option Nat} {c : Nat} (h : w.grownBy a r) (hg : a.grownBy b (some c)) (hc : w.heap.size ≤ c) : w.grownBy b r :=
  ⟨hg.os.trans h.os, hg.tape.trans h.tape, hg.output.trans h.output, Nat.le_trans h.size hg.size, fun i hi hne => (hg.block i (Nat.lt_of_lt_of_le hi h.size) (by simp; omega)).trans (h.block i hi hne)⟩
theorem hN_ge {w a b : World} {r : Option Nat} {B : Nat} {T : TypeId} {cs : Array Value} (h : NewB a b B T cs) (hl : w.grownBy a r) : w.heap.size ≤ B := by rw [h.eq]; exact hl.size
theorem some_ne {a b : Nat} (h : a ≠ b) : some a ≠ some b := fun e => h (by injection e)
theorem Blk.gn {w w' : World} {b r : Nat} {T : TypeId} {cs : Array Value} (h : Blk w b T cs) (hg : w.grownBy w' (some r)) (hne : b ≠ r := by omega) : Blk w' b T cs := h.grown hg (some_ne hne)
theorem Blk.rangeL {w : World} {b : Nat} {T : TypeId} {cs : Array Value} (h : Blk w b T cs) (o k : Nat) {vs : List Value} (e : (cs.toList.drop o).take k = vs) : w.rangeAt b o vs :=
  h.range fun j v hj => by
    rw [← e, List.getElem?_take] at hj
    split at hj
    · rw [List.getElem?_drop] at hj; simpa using hj
    · cases hj
theorem range_sub {w : World} {b o : Nat} {us : List Value} (h : w.rangeAt b o us) (j k : Nat) {vs : List Value} (e : (us.drop j).take k = vs) : w.rangeAt b (o + j) vs := fun i v hi => by
  rw [← e, List.getElem?_take] at hi
  split at hi
  · rw [List.getElem?_drop] at hi
    rw [Nat.add_assoc]
    exact h _ _ hi
  · cases hi
theorem range_low {w w' : World} {b o : Nat} {vs : List Value} (h : w.rangeAt b o vs) (hb : w.grownBy w' none) : w'.rangeAt b o vs := range_grown h hb (by simp)
theorem bcases (b : Bool) : b = true ∨ b = false := by cases b <;> simp
theorem nt_t {b : Bool} (h : (!b) = true) : b = false := by simpa using h
theorem nt_f {b : Bool} (h : (!b) = false) : b = true := by simpa using h
theorem not_of_t {b : Bool} (h : b = true) : (!b) = false := by simp [h]
theorem not_of_f {b : Bool} (h : b = false) : (!b) = true := by simp [h]
theorem and_l {a b : Bool} (h : (a && b) = true) : a = true := by simp at h; exact h.1
theorem and_r {a b : Bool} (h : (a && b) = true) : b = true := by simp at h; exact h.2
theorem or_l {a b : Bool} (h : (a || b) = false) : a = false := by simp at h; exact h.1
theorem or_r {a b : Bool} (h : (a || b) = false) : b = false := by simp at h; exact h.2
theorem beqd {α : Type} [DecidableEq α] (a b : α) : (a == b) = decide (a = b) := by
  by_cases h : a = b <;> simp [h]
theorem args_nil {f : Fr} : ([] : List Operand).map (ev f) = [] := rfl
theorem args_cons {f : Fr} {x : Operand} {xs : List Operand} {v : Value} {vs : List Value} (h : ev f x = v) (t : xs.map (ev f) = vs) : (x :: xs).map (ev f) = v :: vs := by simp [h, t]
theorem parts_nil {f : Fr} : ([] : List (Nat × Operand)).map (fun p => (p.1, ev f p.2)) = [] := rfl
theorem parts_cons {f : Fr} {i : Nat} {x : Operand} {xs : List (Nat × Operand)} {v : Value} {vs : List (Nat × Value)} (h : ev f x = v) (t : xs.map (fun p => (p.1, ev f p.2)) = vs) :
    ((i, x) :: xs).map (fun p => (p.1, ev f p.2)) = (i, v) :: vs := by simp [h, t]
def SlAt (w : World) (a : Option Addr) (sz : Nat) (xs : List (List Value)) : Prop := ∀ k x, xs[k]? = some x → ∃ b o, a = some ⟨b, o, none⟩ ∧ w.rangeAt b (o + k * sz) x
theorem SlAt.low {w w' : World} {a : Option Addr} {sz : Nat} {xs : List (List Value)} (h : SlAt w a sz xs) (hb : w.grownBy w' none) : SlAt w' a sz xs := fun k x hk => by
  obtain ⟨b, o, ha, hr⟩ := h k x hk
  exact ⟨b, o, ha, range_low hr hb⟩
theorem SlAt.at {w : World} {a : Option Addr} {sz k : Nat} {xs : List (List Value)} {x : List Value} (h : SlAt w a sz xs) (hk : xs[k]? = some x) : ∃ b q o, a = some ⟨b, q, none⟩ ∧ q + k * sz = o ∧ w.rangeAt b o x := by
  obtain ⟨b, o, ha, hr⟩ := h k x hk
  exact ⟨b, o, _, ha, rfl, hr⟩
theorem get_lt {α : Type} {l : List α} {i : Nat} (h : i < l.length) : ∃ x, l[i]? = some x := ⟨_, List.getElem?_eq_getElem h⟩
theorem map_get {α β : Type} {g : α → β} {l : List α} {i : Nat} {x : α} (h : l[i]? = some x) : (l.map g)[i]? = some (g x) := by simp [h]
def fieldOff (P : Program) (s : TypeId) (k : Nat) : Option Nat :=
  match P.underlying s with
  | some (.struct fs) => match fs[k]? with
    | some fl => match P.info? fl.type with
      | some i => if i.size = 0 then none else some fl.offset
      | none => none
    | none => none
  | _ => none
def oneTy (P : Program) (t : TypeId) : Bool :=
  match P.underlying t with
  | some (.struct _) | some (.array _ _) | none => false
  | _ => match P.info? t with | some i => i.size == 1 | none => false
def rowTy (P : Program) (t : TypeId) : Option Nat :=
  match P.underlying t with
  | some (.struct _) | some (.array _ _) => (P.info? t).map (·.size)
  | _ => none
def zeroTy (P : Program) (t : TypeId) : Option Value := (P.info? t).bind (·.zero)
def goFn (P : Program) (k : FuncId) : Bool :=
  match P.funcs[k]? with
  | some fn => fn.body.isSome && !(fn.name == "runtime.NumGoroutine")
  | none => false
def elemSz (P : Program) (t : TypeId) : Option Nat :=
  match P.underlying t with
  | some (.slice e) => (P.info? e).map (·.size)
  | _ => none
section
variable {P : Program} {w : World}
theorem run_fieldAt {s k j b o o' : Nat} (h : fieldOff P s k = some j) (e : o + j = o') : (Instr.fieldAt s (.pointer (some ⟨b, o, none⟩)) k).run P w = .ok (.pointer (some ⟨b, o', none⟩)) w := by
  unfold fieldOff at h
  split at h
  · rename_i fs hu
    split at h
    · rename_i fl hfl
      split at h
      · rename_i i hi
        split at h
        · cases h
        · rename_i hz
          obtain rfl := Option.some.inj h
          simp [Instr.fieldAt, run_underlying hu, hfl, Instr.sureAddr, fieldPlace, sizeOf, typeInfo, hi, hz, Addr.add_mid, e]
      · cases h
    · cases h
  · cases h
theorem run_isAgg1 {t : TypeId} (h : oneTy P t = true) : (isAgg t).run P w = .ok false w := by
  unfold oneTy at h
  split at h
  · cases h
  · cases h
  · cases h
  · rename_i d h1 h2 h3
    cases hu : P.underlying t with
    | none => exact absurd hu h3
    | some d =>
      unfold isAgg
      rw [Sem.run_bind, run_underlying hu w]
      cases d <;> first | rfl | exact absurd hu (h1 _) | exact absurd hu (h2 _ _)
theorem size_oneTy {t : TypeId} (h : oneTy P t = true) : (sizeOf t).run P w = .ok 1 w := by
  unfold oneTy at h
  split at h
  · cases h
  · cases h
  · cases h
  · split at h
    · rename_i i hi
      have : i.size = 1 := by simpa using h
      simp [sizeOf, typeInfo, hi, this]
    · cases h
theorem run_load1 {t : TypeId} (h : oneTy P t = true) {a : Addr} {v : Value} (hc : w.cell? a = some v) : (Instr.loadAt t (.pointer (some a))).run P w = .ok v w := by
  simp [Instr.loadAt, Instr.sureAddr, loadVar, run_isAgg1 h, hc]
theorem rowTy_spec {t k : Nat} (h : rowTy P t = some k) : ∃ d, P.underlying t = some d ∧ d.isRow = true ∧ (P.info? t).map (·.size) = some k := by
  unfold rowTy at h
  split at h
  · rename_i fs hu; exact ⟨_, hu, rfl, h⟩
  · rename_i m e hu; exact ⟨_, hu, rfl, h⟩
  · cases h
theorem run_loadn {t k b o : Nat} {vs : List Value} (h : rowTy P t = some k) (hl : vs.length = k) (hr : w.rangeAt b o vs) :
    (Instr.loadAt t (.pointer (some ⟨b, o, none⟩))).run P w = .ok (.agg vs.toArray) w := by
  obtain ⟨d, hu, hd, hs⟩ := rowTy_spec h
  exact run_loadAt_mid w b o t vs d hr hu hd (by rw [hs, hl])
theorem run_store1 {t b o : Nat} {T : TypeId} {cs : Array Value} {v : Value} (h : oneTy P t = true) (h1 : v.oneCell' = true) (hb : Blk w b T cs) (ho : o < cs.size) :
    (Instr.storeAt t (.pointer (some ⟨b, o, none⟩)) v).run P w = .ok () (w.setRow b (cs.setIfInBounds o v)) := by
  have hc : v.cells = #[v] := by cases v <;> first | rfl | cases h1
  have hcell : w.cell? ⟨b, o, none⟩ = some cs[o] := hb.cell (by simp [ho])
  have hst : (store (⟨b, o, none⟩ : Addr) v).run P w = .ok () (w.setRow b (cs.setIfInBounds o v)) := by
    rw [run_store P w _ v _ h1, hcell]
    simp [hb.froz o, setCell_eq_setRow w b o cs T (0, 0) v hb]
  simp [Instr.storeAt, Instr.sureAddr, storeVar, size_oneTy h, hc, storeCells, Addr.add_mid, hst]
theorem run_storen {t k b o : Nat} {T : TypeId} {cs : Array Value} {vs : List Value} (h : rowTy P t = some k) (hl : vs.length = k) (h1 : ∀ v ∈ vs, v.oneCell' = true) (hb : Blk w b T cs) (ho : o + k ≤ cs.size) :
    (Instr.storeAt t (.pointer (some ⟨b, o, none⟩)) (.agg vs.toArray)).run P w = .ok () (w.setRow b (cs.toList.take o ++ vs ++ cs.toList.drop (o + k)).toArray) := by
  obtain ⟨d, _, _, hs⟩ := rowTy_spec h
  cases hq : P.info? t with
  | none => simp [hq] at hs
  | some i =>
    have hi : i.size = k := by simpa [hq] using hs
    have := run_storeCells_at (P := P) b o T vs 0 cs w hb (by omega) h1
    simp only [Nat.add_zero, hl] at this
    simp [Instr.storeAt, Instr.sureAddr, storeVar, sizeOf, typeInfo, hq, hi, Value.cells, hl, this]
theorem run_zero {t : TypeId} {z : Value} (h : zeroTy P t = some z) : (zeroValue t).run P w = .ok z w := by
  unfold zeroTy at h
  cases hq : P.info? t with
  | none => simp [hq] at h
  | some i =>
    have hz : i.zero = some z := by simpa [hq] using h
    simp [zeroValue, typeInfo, hq, hz]
theorem run_index {t sz b o : Nat} {len cap : Nat} {k : IntKind} {i : Int} (h : elemSz P t = some sz) (h0 : 0 ≤ i) (h1 : i < len) {o' : Nat} (e : o + i.toNat * sz = o') :
    (Instr.indexAt t (.slice (some ⟨b, o, none⟩) len cap) (.int k i)).run P w = .ok (.pointer (some ⟨b, o', none⟩)) w := by
  unfold elemSz at h
  split at h
  · rename_i el hu
    cases hq : P.info? el with
    | none => simp [hq] at h
    | some inf =>
      have hs : inf.size = sz := by simpa [hq] using h
      simp [Instr.indexAt, run_underlying hu, asIntOf, h0, h1, sizeOf, typeInfo, hq, hs, Addr.add_mid, e]
  · cases h
theorem run_callGo {k : FuncId} (h : goFn P k = true) (args : Array Value) : (callFunc k args).run P w = .ok (.enter k args) w := by
  unfold goFn at h
  split at h
  · rename_i fn hf
    simp only [Bool.and_eq_true, Bool.not_eq_true'] at h
    obtain ⟨hb, hn⟩ := h
    have hb' : fn.body.isNone = false := by cases hh : fn.body <;> simp_all
    have hn' : ¬ fn.name = "runtime.NumGoroutine" := by simpa using hn
    unfold callFunc
    rw [Sem.run_bind, run_program, Result.andThen_ok]
    simp [hf, hn', hb']
  · cases h
end
def resCell (P : Program) (f : Fr) (w : World) (t : Nat) (T : TypeId) (v : Value) : Prop := ∃ a, f t = .pointer (some a) ∧ (loadVar T a).run P w = .ok v w
section
variable {P : Program} {fn : Func} {f : Fr} {w : World}
theorem resCell_mk {t T k b o : Nat} {vs : List Value} (ht : rowTy P T = some k) (hf : f t = .pointer (some ⟨b, o, none⟩)) (hl : vs.length = k) (hr : w.rangeAt b o vs) : resCell P f w t T (.agg vs.toArray) := by
  obtain ⟨d, hu, hd, hs⟩ := rowTy_spec ht
  exact ⟨_, hf, run_loadVar_mid w b o T vs d hr hu hd (by rw [hs, hl])⟩
theorem resC {t T : Nat} {v : Value} (h : fn.results = #[.cell t T]) (hc : resCell P f w t T v) : resV P fn f w v := fun tm ht => by
  obtain ⟨a, hf, hl⟩ := hc
  simp [results, h, ht, hf, asAddr, hl]
theorem resCT {s t T : Nat} {u v : Value} (h : fn.results = #[.cell t T, .tmp s]) (hc : resCell P f w t T v) (hs : f s = u) : resV P fn f w (.tuple #[v, u]) := fun tm ht => by
  obtain ⟨a, hf, hl⟩ := hc
  simp [results, h, ht, hf, hs, asAddr, hl]
end
def CallsR (P : Program) (k : FuncId) (args : Array Value) (w : World) (R : Value → World → Prop) : Prop := Calls P k args w fun e w' => ∃ v, e = .returned v ∧ R v w'
theorem CallsR.mono {P : Program} {k : FuncId} {args : Array Value} {w : World} {R R' : Value → World → Prop} (h : CallsR P k args w R) (hr : ∀ v w', R v w' → R' v w') : CallsR P k args w R' :=
  Calls.mono h fun _ _ ⟨v, he, hR⟩ => ⟨v, he, hr _ _ hR⟩
section
variable {P : Program} {n : Nat} {ops : Array Oper} {K : Fr → World → Prop} {l : List Oper} {f : Fr} {w w' : World} {ty : TypeId} {pos : String} {aft : Array Edge} {d : Nat}
theorem wpo_move {x : Operand} {v : Value} (hx : ev f x = v) (hd : Nat.blt d n = true) (h : WpO P n ops K l (up f d v) w) : WpO P n ops K (⟨some d, .move x, ty, pos, aft, none⟩ :: l) f w :=
  wpo_val rfl hd (by simp [execOp, hx]) h
theorem wpo_assign {x : Operand} {v : Value} (hx : ev f x = v) (hd : Nat.blt d n = true) (h : WpO P n ops K l (up f d v) w) : WpO P n ops K (⟨some d, .assign x, ty, pos, aft, none⟩ :: l) f w :=
  wpo_val rfl hd (by simp [execOp, hx]) h
theorem wpo_pickt {c x y : Operand} {b : Bool} {v : Value} (hc : ev f c = .bool b) (hb : b = true) (hx : ev f x = v) (hd : Nat.blt d n = true) (h : WpO P n ops K l (up f d v) w) :
    WpO P n ops K (⟨some d, .pick c x y, ty, pos, aft, none⟩ :: l) f w :=
  wpo_val rfl hd (by simp [execOp, hc, hb, hx, asBool]) h
theorem wpo_pickf {c x y : Operand} {b : Bool} {v : Value} (hc : ev f c = .bool b) (hb : b = false) (hy : ev f y = v) (hd : Nat.blt d n = true) (h : WpO P n ops K l (up f d v) w) :
    WpO P n ops K (⟨some d, .pick c x y, ty, pos, aft, none⟩ :: l) f w :=
  wpo_val rfl hd (by simp [execOp, hc, hb, hy, asBool]) h
theorem wpo_box {T : TypeId} {x : Operand} {v : Value} {cs : Array Value} (hx : ev f x = v) (hcs : v.cells = cs) (hd : Nat.blt d n = true)
    (h : ∀ B w', NewB w w' B T cs → WpO P n ops K l (up f d (.pointer (some ⟨B, 0, none⟩))) w') : WpO P n ops K (⟨some d, .box T x, ty, pos, aft, none⟩ :: l) f w :=
  wpo_val rfl hd (by simp [execOp, hx, Instr.box, newVar, newRow, newObj, hcs]; rfl) (h _ _ (newB_alloc w T cs))
theorem wpo_alloc {T : TypeId} {z : Value} {cs : Array Value} (hz : zeroTy P T = some z) (hcs : z.cells = cs) (hd : Nat.blt d n = true)
    (h : ∀ B w', NewB w w' B T cs → WpO P n ops K l (up f d (.pointer (some ⟨B, 0, none⟩))) w') : WpO P n ops K (⟨some d, .alloc T, ty, pos, aft, none⟩ :: l) f w :=
  wpo_val rfl hd (by simp [execOp, Instr.alloc, run_zero hz, newVar, newRow, newObj, hcs]; rfl) (h _ _ (newB_alloc w T cs))
theorem wpo_load1 {t : TypeId} {x : Operand} {a : Addr} {v : Value} (ht : oneTy P t = true) (hx : ev f x = .pointer (some a)) (hc : w.cell? a = some v) (hd : Nat.blt d n = true)
    (h : WpO P n ops K l (up f d v) w) : WpO P n ops K (⟨some d, .load t x, ty, pos, aft, none⟩ :: l) f w :=
  wpo_val rfl hd (by simp [execOp, hx, run_load1 ht hc]) h
theorem wpo_loadn {t k b o : Nat} {x : Operand} {vs : List Value} (ht : rowTy P t = some k) (hx : ev f x = .pointer (some ⟨b, o, none⟩)) (hl : vs.length = k) (hr : w.rangeAt b o vs) (hd : Nat.blt d n = true)
    (h : WpO P n ops K l (up f d (.agg vs.toArray)) w) : WpO P n ops K (⟨some d, .load t x, ty, pos, aft, none⟩ :: l) f w :=
  wpo_val rfl hd (by simp [execOp, hx, run_loadn ht hl hr]) h
theorem wpo_store1 {t b o : Nat} {x y : Operand} {T : TypeId} {cs cs' : Array Value} {v : Value} (ht : oneTy P t = true) (hx : ev f x = .pointer (some ⟨b, o, none⟩)) (hy : ev f y = v) (h1 : v.oneCell' = true)
    (hb : Blk w b T cs) (ho : o < cs.size) (hcs : cs.setIfInBounds o v = cs') (h : ∀ w', SetB w w' b T cs' → WpO P n ops K l f w') : WpO P n ops K (⟨none, .store t x y, ty, pos, aft, none⟩ :: l) f w :=
  wpo_unit rfl rfl (by simp [execOp, hx, hy, run_store1 ht h1 hb ho, hcs]) (h _ (setB_setRow hb cs'))
theorem wpo_storen {t k b o : Nat} {x y : Operand} {T : TypeId} {cs cs' : Array Value} {vs : List Value} (ht : rowTy P t = some k) (hx : ev f x = .pointer (some ⟨b, o, none⟩)) (hy : ev f y = .agg vs.toArray) (hl : vs.length = k)
    (h1 : ∀ v ∈ vs, v.oneCell' = true) (hb : Blk w b T cs) (ho : o + k ≤ cs.size) (hcs : (cs.toList.take o ++ vs ++ cs.toList.drop (o + k)).toArray = cs') (h : ∀ w', SetB w w' b T cs' → WpO P n ops K l f w') :
    WpO P n ops K (⟨none, .store t x y, ty, pos, aft, none⟩ :: l) f w :=
  wpo_unit rfl rfl (by simp only [execOp, hx, hy, Sem.run_bind, run_storen ht hl h1 hb ho, hcs, Result.andThen_ok]; rfl) (h _ (setB_setRow hb cs'))
theorem wpo_fieldAddr {s k j b o o' : Nat} {x : Operand} (hf : fieldOff P s k = some j) (hx : ev f x = .pointer (some ⟨b, o, none⟩)) (e : o + j = o') (hd : Nat.blt d n = true)
    (h : WpO P n ops K l (up f d (.pointer (some ⟨b, o', none⟩))) w) : WpO P n ops K (⟨some d, .fieldAddr s x k, ty, pos, aft, none⟩ :: l) f w :=
  wpo_val rfl hd (by simp [execOp, hx, run_fieldAt hf e]) h
theorem wpo_indexAddr {t sz b o o' len cap : Nat} {x y : Operand} {k : IntKind} {i : Int} (ht : elemSz P t = some sz) (hx : ev f x = .slice (some ⟨b, o, none⟩) len cap) (hy : ev f y = .int k i) (h0 : 0 ≤ i) (h1 : i < len)
    (e : o + i.toNat * sz = o') (hd : Nat.blt d n = true) (h : WpO P n ops K l (up f d (.pointer (some ⟨b, o', none⟩))) w) : WpO P n ops K (⟨some d, .indexAddr t x y, ty, pos, aft, none⟩ :: l) f w :=
  wpo_val rfl hd (by simp [execOp, hx, hy, run_index ht h0 h1 e]) h
theorem wpo_indexE {t sz len cap b q o' : Nat} {a : Option Addr} {x y : Operand} {k : IntKind} {i : Int} (ht : elemSz P t = some sz) (hx : ev f x = .slice a len cap) (hy : ev f y = .int k i) (ha : a = some ⟨b, q, none⟩) (e : q + i.toNat * sz = o') (h0 : 0 ≤ i) (h1 : i < len)
    (hd : Nat.blt d n = true) (h : WpO P n ops K l (up f d (.pointer (some ⟨b, o', none⟩))) w) : WpO P n ops K (⟨some d, .indexAddr t x y, ty, pos, aft, none⟩ :: l) f w := by
  subst ha
  exact wpo_indexAddr ht hx hy h0 h1 e hd h
theorem run_len {t et : TypeId} {a : Option Addr} {m c : Nat} (ht : (match P.underlying t with | some (.slice _) => true | _ => false) = true) : (Builtin.len_ #[t] et #[.slice a m c]).run P w = .ok (.int .i64 (m : Int)) w := by
  cases hu : P.underlying t with
  | none => rw [hu] at ht; cases ht
  | some dd =>
    rw [hu] at ht
    cases dd with
    | slice e => exact run_len_slice w t et a m c (by simp [Program.elem, hu])
    | _ => cases ht
theorem wpo_len {t : TypeId} {a : Option Addr} {m c : Nat} {x : Operand} (ht : (match P.underlying t with | some (.slice _) => true | _ => false) = true) (hx : ev f x = .slice a m c) (hd : Nat.blt d n = true)
    (h : WpO P n ops K l (up f d (.int .i64 (m : Int))) w) : WpO P n ops K (⟨some d, .call ⟨.builtin .len, #[x], #[t]⟩, ty, pos, aft, none⟩ :: l) f w :=
  wpo_val rfl hd (by simp [execOp, resolve, invoke, builtin, hx, run_len ht]) h
theorem wpo_nilCheck {x : Operand} {a : Addr} (hx : ev f x = .pointer (some a)) (hd : Nat.blt d n = true) (h : WpO P n ops K l (up f d (.pointer (some a))) w) : WpO P n ops K (⟨some d, .nilCheck x, ty, pos, aft, none⟩ :: l) f w :=
  wpo_val rfl hd (by simp [execOp, hx]) h
theorem wpo_extract {x : Operand} {i : Nat} {vs : Array Value} {v : Value} (hx : ev f x = .tuple vs) (hv : vs[i]? = some v) (hd : Nat.blt d n = true) (h : WpO P n ops K l (up f d v) w) : WpO P n ops K (⟨some d, .extract x i, ty, pos, aft, none⟩ :: l) f w :=
  wpo_val rfl hd (by simp [execOp, hx, Instr.extract, hv]) h
theorem wpo_not {t : TypeId} {x : Operand} {b b' : Bool} (hx : ev f x = .bool b) (hb : (!b) = b') (hd : Nat.blt d n = true) (h : WpO P n ops K l (up f d (.bool b')) w) : WpO P n ops K (⟨some d, .unOp .not t x, ty, pos, aft, none⟩ :: l) f w :=
  wpo_val rfl hd (by simp [execOp, hx, Op.unary, hb]) h
theorem run_neqb {t : TypeId} (ht : P.underlying t = some .bool) (a b : Bool) : (binOp .neq t (.bool a) (.bool b)).run P w = .ok (.bool (!decide (a = b))) w := by
  have h : ∀ d : Nat, (Op.equalIn (d + 1) t (.bool a) (.bool b)).run P w = .ok (a == b) w := fun d => run_equalIn_bool' w d t a b ht
  simp only [binOp]
  simp [Op.equal, Op.maxDepth, h 9999, beqd]
theorem wpo_bin {bo : BinOp} {xt yt : TypeId} {x y : Operand} {u u' v : Value} (hx : ev f x = u) (hy : ev f y = u') (hr : (binOp bo xt u u').run P w = .ok v w) (hg : ∀ x y, eqGuard bo xt x y u u' = pure ()) (hd : Nat.blt d n = true)
    (h : WpO P n ops K l (up f d v) w) : WpO P n ops K (⟨some d, .binOp bo xt x y yt, ty, pos, aft, none⟩ :: l) f w :=
  wpo_val rfl hd (by simp [execOp, hx, hy, hr, hg]) h
theorem wpo_build {t : TypeId} {parts : Array (Nat × Operand)} {ps : List (Nat × Value)} {v : Value} (hp : parts.toList.map (fun p => (p.1, ev f p.2)) = ps) (hb : (Instr.build t ps.toArray).run P w = .ok v w) (hd : Nat.blt d n = true)
    (h : WpO P n ops K l (up f d v) w) : WpO P n ops K (⟨some d, .build t parts, ty, pos, aft, none⟩ :: l) f w :=
  wpo_val rfl hd (by
    have e : (parts.map fun p => (p.1, ev f p.2)) = ps.toArray := by rw [← hp]; apply Array.ext'; simp
    show ((do pure (Next.value (← Instr.build t (parts.map fun p => (p.1, ev f p.2)))) : Sem Next)).run P w = _
    rw [e, Sem.run_bind, hb]
    rfl) h
theorem wpo_makeFunc {k : FuncId} {cap : Array Operand} {vs : List Value} (hc : cap.toList.map (ev f) = vs) (hd : Nat.blt d n = true) (h : WpO P n ops K l (up f d (.func (.func k) #[] vs.toArray)) w) :
    WpO P n ops K (⟨some d, .makeFunc (.func k) #[] cap, ty, pos, aft, none⟩ :: l) f w := wpo_val rfl hd (by
      have : cap.map (ev f) = vs.toArray := by rw [← hc]; apply Array.ext'; simp
      simp [execOp, Instr.makeFunc, this]) h
theorem conv_u64 {a : Int} (h0 : 0 ≤ a) (h1 : a ≤ 18446744073709551615) : IntKind.u64.wrap a = a := by rw [IntKind.wrap_u64]; omega
theorem wpo_conv {s t : TypeId} {x : Operand} {k k' : IntKind} {a c : Int} (hx : ev f x = .int k a) (hs : (P.underlying s).isSome = true) (ht : P.underlying t = some (.int k')) (hc : k'.wrap a = c) (hd : Nat.blt d n = true)
    (h : WpO P n ops K l (up f d (.int k' c)) w) : WpO P n ops K (⟨some d, .convert s t x, ty, pos, aft, none⟩ :: l) f w :=
  wpo_val rfl hd (by
    obtain ⟨ds, hs'⟩ := Option.isSome_iff_exists.1 hs
    simp [execOp, hx, convert, run_underlying hs', run_underlying ht, Conv.intToInt, hc]) h
theorem wpo_eqs {bo : BinOp} {t yt : TypeId} {x y : Operand} {u v : Value} {q q' : Bool} (hx : ev f x = u) (hy : ev f y = v) (hg : (eqGuard bo t x y u v).run P w = .ok () w) (hr : (binOp bo t u v).run P w = .ok (.bool q') w) (hq : q' = q)
    (hd : Nat.blt d n = true) (h : WpO P n ops K l (up f d (.bool q)) w) : WpO P n ops K (⟨some d, .binOp bo t x y yt, ty, pos, aft, none⟩ :: l) f w :=
  wpo_val rfl hd (by simp only [execOp, hx, hy, Sem.run_bind, hg, hr, Result.andThen_ok, hq]; rfl) h
theorem wpo_neqb {t yt : TypeId} {x y : Operand} {a b q : Bool} (ht : P.underlying t = some .bool) (hx : ev f x = .bool a) (hy : ev f y = .bool b) (hq : (!decide (a = b)) = q) (hd : Nat.blt d n = true)
    (h : WpO P n ops K l (up f d (.bool q)) w) : WpO P n ops K (⟨some d, .binOp .neq t x y yt, ty, pos, aft, none⟩ :: l) f w :=
  wpo_bin hx hy (by rw [run_neqb ht, hq]) (fun _ _ => eqGuard_at_bool ..) hd h
section ints
variable {xt yt : TypeId} {x y : Operand} {k : IntKind} {a b c : Int}
theorem wpo_add (hx : ev f x = .int .i64 a) (hy : ev f y = .int .i64 b) (hc : a + b = c) (h0 : -9223372036854775808 ≤ c) (h1 : c ≤ 9223372036854775807) (hd : Nat.blt d n = true) (h : WpO P n ops K l (up f d (.int .i64 c)) w) :
    WpO P n ops K (⟨some d, .binOp .add xt x y yt, ty, pos, aft, none⟩ :: l) f w :=
  wpo_bin hx hy (by rw [binOp_add]; simp [Op.intArith, hc, IntWalk.i64_in c (by omega)]) (fun _ _ => eqGuard_at_int ..) hd h
theorem wpo_sub (hx : ev f x = .int .i64 a) (hy : ev f y = .int .i64 b) (hc : a - b = c) (h0 : -9223372036854775808 ≤ c) (h1 : c ≤ 9223372036854775807) (hd : Nat.blt d n = true) (h : WpO P n ops K l (up f d (.int .i64 c)) w) :
    WpO P n ops K (⟨some d, .binOp .sub xt x y yt, ty, pos, aft, none⟩ :: l) f w :=
  wpo_bin hx hy (by rw [binOp_sub]; simp [Op.intArith, hc, IntWalk.i64_in c (by omega)]) (fun _ _ => eqGuard_at_int ..) hd h
theorem wpo_quo (hx : ev f x = .int .i64 a) (hy : ev f y = .int .i64 b) (h0 : 0 ≤ a) (h1 : 0 < b) (h2 : a ≤ 9223372036854775807) (hc : a / b = c) (hd : Nat.blt d n = true) (h : WpO P n ops K l (up f d (.int .i64 c)) w) :
    WpO P n ops K (⟨some d, .binOp .quo xt x y yt, ty, pos, aft, none⟩ :: l) f w :=
  wpo_bin hx hy (by
    rw [binOp_quo]
    have hb : b ≠ 0 := by omega
    have h3 : a / b ≤ a := Int.ediv_le_self _ h0
    have h4 : 0 ≤ a / b := Int.ediv_nonneg h0 (by omega)
    rw [hc] at h3 h4
    simp [Op.intDiv, hb, Int.tdiv_eq_ediv_of_nonneg h0, hc, IntWalk.i64_in c (by omega)]) (fun _ _ => eqGuard_at_int ..) hd h
theorem wpo_rem (hx : ev f x = .int .i64 a) (hy : ev f y = .int .i64 b) (h0 : 0 ≤ a) (h1 : 0 < b) (_h2 : a ≤ 9223372036854775807) (hc : a % b = c) (hd : Nat.blt d n = true) (h : WpO P n ops K l (up f d (.int .i64 c)) w) :
    WpO P n ops K (⟨some d, .binOp .rem xt x y yt, ty, pos, aft, none⟩ :: l) f w :=
  wpo_bin hx hy (by
    rw [binOp_rem]
    have hb : b ≠ 0 := by omega
    simp [Op.intDiv, hb, Int.tmod_eq_emod_of_nonneg h0, hc]) (fun _ _ => eqGuard_at_int ..) hd h
theorem wpo_lss {q : Bool} (hx : ev f x = .int k a) (hy : ev f y = .int k b) (hq : decide (a < b) = q) (hd : Nat.blt d n = true) (h : WpO P n ops K l (up f d (.bool q)) w) : WpO P n ops K (⟨some d, .binOp .lss xt x y yt, ty, pos, aft, none⟩ :: l) f w :=
  wpo_bin hx hy (by rw [binOp_lss, ← hq]; rfl) (fun _ _ => eqGuard_at_int ..) hd h
theorem wpo_leq {q : Bool} (hx : ev f x = .int k a) (hy : ev f y = .int k b) (hq : decide (a ≤ b) = q) (hd : Nat.blt d n = true) (h : WpO P n ops K l (up f d (.bool q)) w) : WpO P n ops K (⟨some d, .binOp .leq xt x y yt, ty, pos, aft, none⟩ :: l) f w :=
  wpo_bin hx hy (by rw [binOp_leq, ← hq]; rfl) (fun _ _ => eqGuard_at_int ..) hd h
theorem wpo_gtr {q : Bool} (hx : ev f x = .int k a) (hy : ev f y = .int k b) (hq : decide (b < a) = q) (hd : Nat.blt d n = true) (h : WpO P n ops K l (up f d (.bool q)) w) : WpO P n ops K (⟨some d, .binOp .gtr xt x y yt, ty, pos, aft, none⟩ :: l) f w :=
  wpo_bin hx hy (by rw [binOp_gtr, ← hq]; rfl) (fun _ _ => eqGuard_at_int ..) hd h
theorem wpo_geq {q : Bool} (hx : ev f x = .int k a) (hy : ev f y = .int k b) (hq : decide (b ≤ a) = q) (hd : Nat.blt d n = true) (h : WpO P n ops K l (up f d (.bool q)) w) : WpO P n ops K (⟨some d, .binOp .geq xt x y yt, ty, pos, aft, none⟩ :: l) f w :=
  wpo_bin hx hy (by rw [binOp_geq, ← hq]; rfl) (fun _ _ => eqGuard_at_int ..) hd h
theorem wpo_eql {q : Bool} (hx : ev f x = .int k a) (hy : ev f y = .int k b) (hq : decide (a = b) = q) (hd : Nat.blt d n = true) (h : WpO P n ops K l (up f d (.bool q)) w) : WpO P n ops K (⟨some d, .binOp .eql xt x y yt, ty, pos, aft, none⟩ :: l) f w :=
  wpo_bin hx hy (by rw [binOp_eql, ← hq, beqd]; rfl) (fun _ _ => eqGuard_at_int ..) hd h
theorem wpo_neq {q : Bool} (hx : ev f x = .int k a) (hy : ev f y = .int k b) (hq : (!decide (a = b)) = q) (hd : Nat.blt d n = true) (h : WpO P n ops K l (up f d (.bool q)) w) : WpO P n ops K (⟨some d, .binOp .neq xt x y yt, ty, pos, aft, none⟩ :: l) f w :=
  wpo_bin hx hy (by rw [binOp_neq, ← hq, bne, beqd]; rfl) (fun _ _ => eqGuard_at_int ..) hd h
end ints
theorem wpo_call {k : FuncId} {args : Array Operand} {tys : Array TypeId} {vs : List Value} {R : Value → World → Prop} (hk : goFn P k = true) (ha : args.toList.map (ev f) = vs) (hd : Nat.blt d n = true) (hc : CallsR P k vs.toArray w R)
    (h : ∀ v w', R v w' → WpO P n ops K l (up f d v) w') : WpO P n ops K (⟨some d, .call ⟨.value (.func k), args, tys⟩, ty, pos, aft, none⟩ :: l) f w :=
  wpo_enter (R := R) (k := k) (args := vs.toArray) rfl hd (by
    have : args.map (ev f) = vs.toArray := by rw [← ha]; apply Array.ext'; simp
    simp [execOp, resolve, ev, Deferred.ofValue, invoke, this, run_callGo hk]) hc h
end
end Go.Dw
end
section
namespace Go.Dw.J
open Go.Dw
set_option linter.unusedVariables false
set_option linter.unusedSimpArgs false
def pz : Obj := .cells #[] 1000000007 (0, 0)
def ro (c : Array Value) (T : TypeId) : Obj := .cells c T (0, c.size)
def Vis (a w : Option Obj) : Prop := a = w ∨ a = some pz ∨ ∃ c T fr, a = some (ro c T) ∧ w = some (.cells c T fr)
def NotCells : Obj → Prop
  | .cells .. => False
  | _ => True
def NotView : Obj → Prop
  | .view .. => False
  | _ => True
def Dead (P : Program) {α : Type} : Sem α → Prop
  | .pure _ => False
  | .load _ _ k => ∀ v, Dead P (k v)
  | .store _ _ _ k => Dead P k
  | .new _ k => ∀ n, Dead P (k n)
  | .shape _ k => ∀ s, Dead P (k s)
  | .freeze _ _ k => Dead P k
  | .frozen _ k => ∀ b, Dead P (k b)
  | .getObj _ k => ∀ o, Dead P (k o)
  | .setObj _ _ k => Dead P k
  | .choose _ k => ∀ n, Dead P (k n)
  | .sys _ k => ∀ r, Dead P (k r)
  | .program k => Dead P (k P)
  | .mark _ k => Dead P k
  | .halt _ => True
def Quiet (P : Program) {α : Type} : Sem α → Prop
  | .pure _ => True
  | .load m _ k => m = .plain ∧ ∀ v, Quiet P (k v)
  | .store m _ _ k => m = .plain ∧ Quiet P k
  | .new o k => NotView o ∧ ∀ n, Quiet P (k n)
  | .shape _ k => ∀ s, Dead P (k s)
  | .freeze _ _ k => Dead P k
  | .frozen _ k => ∀ b, Dead P (k b)
  | .getObj _ k => ∀ o, NotCells o → (o.isChan = false ∧ Quiet P (k o)) ∨ Dead P (k o)
  | .setObj _ o k => (NotCells o ∧ NotView o ∧ o.isChan = false) ∧ Quiet P k
  | .choose _ k => ∀ n, Quiet P (k n)
  | .sys _ k => ∀ r, Dead P (k r)
  | .program k => Quiet P (k P)
  | .mark m k => (m = .noRoom ∧ Quiet P k) ∨ Dead P k
  | .halt _ => True
theorem Dead.quiet {P : Program} {α : Type} : ∀ {s : Sem α}, Dead P s → ∀ w es x w' es', s.runT P w es ≠ (.ok x w', es')
  | .pure _, h, _, _, _, _, _ => h.elim
  | .load m a k, h, w, es, x, w', es' => by
    simp only [Sem.runT]
    cases w.cell? a with
    | some v => exact Dead.quiet (h v) _ _ _ _ _
    | none =>
      simp only
      cases w.farLoad P a (m == .atomic) with
      | ok r => exact Dead.quiet (h r.1) _ _ _ _ _
      | error e => simp
  | .store m a v k, h, w, es, x, w', es' => by
    have key : ∀ w1 es1, k.runT P w1 es1 ≠ (.ok x w', es') := fun w1 es1 => Dead.quiet (s := k) h _ _ _ _ _
    cases v <;> simp only [Sem.runT] <;> first | (intro hh; cases hh; done) | skip
    all_goals
      split
      · split
        · simp
        · exact key _ _
      · split
        · exact key _ _
        · simp
  | .new o k, h, w, es, x, w', es' => Dead.quiet (h _) _ _ _ _ _
  | .shape r k, h, w, es, x, w', es' => Dead.quiet (h _) _ _ _ _ _
  | .freeze a n k, h, w, es, x, w', es' => Dead.quiet (s := k) h _ _ _ _ _
  | .frozen a k, h, w, es, x, w', es' => Dead.quiet (h _) _ _ _ _ _
  | .getObj r k, h, w, es, x, w', es' => by
    simp only [Sem.runT]
    split
    · simp
    · exact Dead.quiet (h _) _ _ _ _ _
    · simp
  | .setObj r o k, h, w, es, x, w', es' => by
    simp only [Sem.runT]
    split
    · simp
    · exact Dead.quiet (s := k) h _ _ _ _ _
    · simp
  | .choose q k, h, w, es, x, w', es' => by
    simp only [Sem.runT]
    split
    · exact Dead.quiet (h _) _ _ _ _ _
    · exact Dead.quiet (h _) _ _ _ _ _
  | .sys c k, h, w, es, x, w', es' => Dead.quiet (h _) _ _ _ _ _
  | .program k, h, w, es, x, w', es' => Dead.quiet (s := k P) h _ _ _ _ _
  | .mark m k, h, w, es, x, w', es' => Dead.quiet (s := k) h _ _ _ _ _
  | .halt e, h, w, es, x, w', es' => by simp [Sem.runT]
theorem dead_bind {P : Program} {α β : Type} {k : α → Sem β} : ∀ {s : Sem α}, Dead P s → Dead P (s.bind k)
  | .pure _, h => h.elim
  | .load _ _ _, h => fun v => dead_bind (h v)
  | .store _ _ _ k', h => dead_bind (s := k') h
  | .new _ _, h => fun v => dead_bind (h v)
  | .shape _ _, h => fun v => dead_bind (h v)
  | .freeze _ _ k', h => dead_bind (s := k') h
  | .frozen _ _, h => fun v => dead_bind (h v)
  | .getObj _ _, h => fun v => dead_bind (h v)
  | .setObj _ _ k', h => dead_bind (s := k') h
  | .choose _ _, h => fun v => dead_bind (h v)
  | .sys _ _, h => fun v => dead_bind (h v)
  | .program k', h => dead_bind (s := k' P) h
  | .mark _ k', h => dead_bind (s := k') h
  | .halt _, h => trivial
theorem dead_bind2 {P : Program} {α β : Type} {k : α → Sem β} (hk : ∀ x, Dead P (k x)) : ∀ {s : Sem α}, Dead P (s.bind k)
  | .pure x => hk x
  | .load _ _ _ => fun v => dead_bind2 hk
  | .store _ _ _ k' => dead_bind2 (s := k') hk
  | .new _ _ => fun v => dead_bind2 hk
  | .shape _ _ => fun v => dead_bind2 hk
  | .freeze _ _ k' => dead_bind2 (s := k') hk
  | .frozen _ _ => fun v => dead_bind2 hk
  | .getObj _ _ => fun v => dead_bind2 hk
  | .setObj _ _ k' => dead_bind2 (s := k') hk
  | .choose _ _ => fun v => dead_bind2 hk
  | .sys _ _ => fun v => dead_bind2 hk
  | .program k' => dead_bind2 (s := k' P) hk
  | .mark _ k' => dead_bind2 (s := k') hk
  | .halt _ => trivial
theorem quiet_bind {P : Program} {α β : Type} {k : α → Sem β} (hk : ∀ x, Quiet P (k x)) : ∀ {s : Sem α}, Quiet P s → Quiet P (s.bind k)
  | .pure x, _ => hk x
  | .load _ _ _, h => ⟨h.1, fun v => quiet_bind hk (h.2 v)⟩
  | .store _ _ _ k', h => ⟨h.1, quiet_bind (s := k') hk h.2⟩
  | .new _ _, h => ⟨h.1, fun v => quiet_bind hk (h.2 v)⟩
  | .shape _ _, h => fun v => dead_bind (h v)
  | .freeze _ _ k', h => dead_bind (s := k') h
  | .frozen _ _, h => fun v => dead_bind (h v)
  | .getObj _ _, h => fun v hv => (h v hv).imp (fun x => ⟨x.1, quiet_bind hk x.2⟩) (fun x => dead_bind x)
  | .setObj _ _ k', h => ⟨h.1, quiet_bind (s := k') hk h.2⟩
  | .choose _ _, h => fun v => quiet_bind hk (h v)
  | .sys _ _, h => fun v => dead_bind (h v)
  | .program k', h => quiet_bind (s := k' P) hk h
  | .mark _ k', h => h.imp (fun x => ⟨x.1, quiet_bind (s := k') hk x.2⟩) (fun x => dead_bind (s := k') x)
  | .halt _, _ => trivial
def Yields (P : Program) {α : Type} (R : α → Prop) : Sem α → Prop
  | .pure x => R x
  | .load _ _ k => ∀ v, Yields P R (k v)
  | .store _ _ _ k => Yields P R k
  | .new _ k => ∀ n, Yields P R (k n)
  | .shape _ k => ∀ s, Yields P R (k s)
  | .freeze _ _ k => Yields P R k
  | .frozen _ k => ∀ b, Yields P R (k b)
  | .getObj _ k => ∀ o, Yields P R (k o)
  | .setObj _ _ k => Yields P R k
  | .choose _ k => ∀ n, Yields P R (k n)
  | .sys _ k => ∀ r, Yields P R (k r)
  | .program k => Yields P R (k P)
  | .mark _ k => Yields P R k
  | .halt _ => True
structure Hid (A w : World) : Prop where
  sz : A.heap.size = w.heap.size
  tape : A.tape = w.tape
  drawn : A.drawn = w.drawn
  os : A.os = w.os
  output : A.output = w.output
  vis : ∀ b : Nat, Vis A.heap[b]? w.heap[b]?
  nv : ∀ (b : Nat) (at_ : Addr) (u : TypeId), A.heap[b]? ≠ some (.view at_ u)
def Seen (A : World) (b : Nat) : Prop := b < A.heap.size ∧ A.heap[b]? ≠ some pz
def Ro (A : World) (b : Nat) : Prop := ∃ c T, A.heap[b]? = some (ro c T) ∧ 0 < c.size
structure Turn (A w A' w' : World) : Prop where
  le : A.heap.size ≤ A'.heap.size
  hid : ∀ b : Nat, A.heap[b]? = some pz → A'.heap[b]? = some pz ∧ w'.heap[b]? = w.heap[b]?
  read : ∀ b : Nat, Ro A b → A'.heap[b]? = A.heap[b]? ∧ w'.heap[b]? = w.heap[b]?
  eq : ∀ b : Nat, A.heap[b]? = w.heap[b]? → A'.heap[b]? = w'.heap[b]?
  see : ∀ b : Nat, Seen A b → Seen A' b
  free : ∀ b : Nat, b < A.heap.size → Ro A' b → Ro A b
  tape : w'.tape = w.tape
  os : w'.os = w.os
  output : w'.output = w.output
theorem Turn.refl (A w : World) : Turn A w A w := ⟨Nat.le_refl _, fun b h => ⟨h, rfl⟩, fun b h => ⟨rfl, rfl⟩, fun b h => h, fun b h => h, fun b _ h => h, rfl, rfl, rfl⟩
theorem Turn.trans {A w A1 w1 A2 w2 : World} (h : Turn A w A1 w1) (k : Turn A1 w1 A2 w2) : Turn A w A2 w2 :=
  ⟨Nat.le_trans h.le k.le, fun b hb => let x := h.hid b hb; let y := k.hid b x.1; ⟨y.1, y.2.trans x.2⟩,
    fun b hb => by
      obtain ⟨c, T, h1, h2⟩ := hb
      obtain ⟨x1, x2⟩ := h.read b ⟨c, T, h1, h2⟩
      obtain ⟨y1, y2⟩ := k.read b ⟨c, T, x1.trans h1, h2⟩
      exact ⟨y1.trans x1, y2.trans x2⟩,
    fun b hb => k.eq b (h.eq b hb), fun b hb => k.see b (h.see b hb), fun b hb hr => h.free b hb (k.free b (Nat.lt_of_lt_of_le hb h.le) hr), k.tape.trans h.tape, k.os.trans h.os, k.output.trans h.output⟩
inductive EvOk (A : World) : Event → Prop
  | read {a : Addr} : Seen A a.block → EvOk A ⟨.cell a, false, false⟩
  | write {a : Addr} : Seen A a.block → ¬ Ro A a.block → EvOk A ⟨.cell a, true, false⟩
  | obj {r : Nat} {wr : Bool} : Seen A r → ¬ Ro A r → EvOk A ⟨.obj r, wr, false⟩
  | room : EvOk A ⟨.mark .noRoom, false, true⟩
theorem EvOk.up {A w A' w' : World} {e : Event} (h : EvOk A e) (t : Turn A w A' w') : EvOk A' e := by
  cases h with
  | read h => exact .read (t.see _ h)
  | write h h2 => exact .write (t.see _ h) (fun x => h2 (t.free _ h.1 x))
  | obj h h2 => exact .obj (t.see _ h) (fun x => h2 (t.free _ h.1 x))
  | room => exact .room
theorem cell_obj {w : World} {a : Addr} {v : Value} (h : w.cell? a = some v) : ∃ c T fr, w.heap[a.block]? = some (.cells c T fr) ∧ a.spot = none ∧ c[a.off]? = some v := by
  unfold World.cell? at h
  split at h
  · rename_i c T fr hb
    split at h
    · cases h
    · rename_i hs
      exact ⟨c, T, fr, hb, by simpa using hs, h⟩
  · cases h
theorem cell_of {w : World} {a : Addr} {v : Value} {c : Array Value} {T : TypeId} {fr : Nat × Nat} (h : w.heap[a.block]? = some (.cells c T fr)) (hs : a.spot = none) (hc : c[a.off]? = some v) : w.cell? a = some v := by
  simp [World.cell?, h, hs, hc]
theorem Hid.cell {A w : World} (h : Hid A w) {a : Addr} {v : Value} (hc : A.cell? a = some v) : w.cell? a = some v := by
  obtain ⟨c, T, fr, h1, h2, h3⟩ := cell_obj hc
  rcases h.vis a.block with e | e | ⟨c', T', fr', e1, e2⟩
  · exact cell_of (e ▸ h1) h2 h3
  · rw [e] at h1; cases h1; simp at h3
  · rw [e1] at h1
    cases h1
    exact cell_of e2 h2 h3
theorem cell_seen {A : World} {a : Addr} {v : Value} (hc : A.cell? a = some v) : Seen A a.block := by
  obtain ⟨c, T, fr, h1, h2, h3⟩ := cell_obj hc
  refine ⟨(Array.getElem?_eq_some_iff.1 h1).1, fun e => ?_⟩
  rw [e] at h1
  cases h1
  simp at h3
theorem not_ro_of {A : World} {a : Addr} {v : Value} (hc : A.cell? a = some v) (hf : A.frozen? a = false) : ¬ Ro A a.block := by
  obtain ⟨c, T, fr, h1, h2, h3⟩ := cell_obj hc
  rintro ⟨c', T', e, _⟩
  rw [h1] at e
  cases e
  have hlt : a.off < c.size := (Array.getElem?_eq_some_iff.1 h3).1
  simp [World.frozen?, h1, hlt] at hf
theorem heap_setCell (w : World) (a : Addr) (v : Value) (b : Nat) : (w.setCell a v).heap[b]? = if b = a.block then (w.heap[b]?).map (fun | .cells c e f => .cells (if a.spot.isSome then c else c.setIfInBounds a.off v) e f | o => o) else w.heap[b]? := by
  unfold World.setCell
  simp only [Array.getElem?_modify]
  by_cases h : a.block = b
  · rw [if_pos h, if_pos h.symm]
    rfl
  · rw [if_neg h, if_neg (fun e => h e.symm)]
theorem hid_store {A w : World} (h : Hid A w) {a : Addr} {u : Value} (hc : A.cell? a = some u) (hf : A.frozen? a = false) (v : Value) : w.frozen? a = false ∧ Hid (A.setCell a v) (w.setCell a v) ∧ Turn A w (A.setCell a v) (w.setCell a v) := by
  obtain ⟨c, T, fr, h1, h2, h3⟩ := cell_obj hc
  have hlt : a.off < c.size := (Array.getElem?_eq_some_iff.1 h3).1
  have hnr := not_ro_of hc hf
  have hw : w.heap[a.block]? = some (.cells c T fr) := by
    rcases h.vis a.block with e | e | ⟨c', T', fr', e1, e2⟩
    · exact e ▸ h1
    · rw [e] at h1; cases h1; simp at hlt
    · exact absurd ⟨c', T', e1, by rw [e1] at h1; cases h1; omega⟩ hnr
  have eA : (A.setCell a v).heap[a.block]? = some (.cells (c.setIfInBounds a.off v) T fr) := by rw [heap_setCell, if_pos rfl, h1]; simp [h2]
  have eW : (w.setCell a v).heap[a.block]? = some (.cells (c.setIfInBounds a.off v) T fr) := by rw [heap_setCell, if_pos rfl, hw]; simp [h2]
  have oA : ∀ b, b ≠ a.block → (A.setCell a v).heap[b]? = A.heap[b]? := fun b hb => by rw [heap_setCell, if_neg hb]
  have oW : ∀ b, b ≠ a.block → (w.setCell a v).heap[b]? = w.heap[b]? := fun b hb => by rw [heap_setCell, if_neg hb]
  have szA : (A.setCell a v).heap.size = A.heap.size := by simp [World.setCell]
  have szW : (w.setCell a v).heap.size = w.heap.size := by simp [World.setCell]
  have ne_pz : (A.setCell a v).heap[a.block]? ≠ some pz := by
    rw [eA]
    intro e
    have e2 : (c.setIfInBounds a.off v).size = 0 := congrArg (fun o : Option Obj => match o with | some (.cells c _ _) => c.size | _ => 0) e
    rw [Array.size_setIfInBounds] at e2
    omega
  refine ⟨?_, ⟨by rw [szA, szW]; exact h.sz, h.tape, h.drawn, h.os, h.output, fun b => ?_, fun b => ?_⟩, ⟨by rw [szA]; exact Nat.le_refl _, fun b hb => ?_, fun b hb => ?_, fun b hb => ?_, fun b hb => ?_, fun b hb hr => ?_, rfl, rfl, rfl⟩⟩
  · simpa [World.frozen?, h1, hw] using hf
  · by_cases hb : b = a.block
    · subst hb; exact Or.inl (eA.trans eW.symm)
    · rw [oA b hb, oW b hb]; exact h.vis b
  · intro at_ u e
    by_cases hb : b = a.block
    · subst hb; rw [eA] at e; cases e
    · rw [oA b hb] at e; exact h.nv _ _ _ e
  · have hne : b ≠ a.block := fun e => by subst e; rw [h1] at hb; cases hb; simp at hlt
    rw [oA b hne, oW b hne]
    exact ⟨hb, rfl⟩
  · have hne : b ≠ a.block := fun e => hnr (e ▸ hb)
    exact ⟨oA b hne, oW b hne⟩
  · by_cases hb2 : b = a.block
    · subst hb2; exact eA.trans eW.symm
    · rw [oA b hb2, oW b hb2]; exact hb
  · by_cases hb2 : b = a.block
    · subst hb2; exact ⟨by rw [szA]; exact hb.1, ne_pz⟩
    · exact ⟨by rw [szA]; exact hb.1, by rw [oA b hb2]; exact hb.2⟩
  · by_cases hb2 : b = a.block
    · subst hb2
      obtain ⟨c', T', e1, e2⟩ := hr
      rw [eA] at e1
      cases e1
      refine absurd ⟨c, T, ?_, by omega⟩ hnr
      rw [h1]
      simp [ro]
    · obtain ⟨c', T', e1, e2⟩ := hr
      exact ⟨c', T', by rw [← oA b hb2]; exact e1, e2⟩
theorem hid_new {A w : World} (h : Hid A w) (o : Obj) (ho : NotView o) : Hid { A with heap := A.heap.push o } { w with heap := w.heap.push o } ∧ Turn A w { A with heap := A.heap.push o } { w with heap := w.heap.push o } := by
  have hA : ∀ b : Nat, (A.heap.push o)[b]? = if b = A.heap.size then some o else A.heap[b]? := fun b => by rw [Array.getElem?_push]
  have hW : ∀ b : Nat, (w.heap.push o)[b]? = if b = A.heap.size then some o else w.heap[b]? := fun b => by rw [Array.getElem?_push, h.sz]
  have lt : ∀ {b : Nat} {x : Obj}, A.heap[b]? = some x → b ≠ A.heap.size := fun hb e => by have := (Array.getElem?_eq_some_iff.1 hb).1; omega
  refine ⟨⟨by simp [h.sz], h.tape, h.drawn, h.os, h.output, fun b => ?_, fun b at_ u e => ?_⟩, ⟨by simp, fun b hb => ?_, fun b hb => ?_, fun b hb => ?_, fun b hb => ?_, fun b hb hr => ?_, rfl, rfl, rfl⟩⟩
  · show Vis (A.heap.push o)[b]? (w.heap.push o)[b]?
    rw [hA, hW]
    split
    · exact Or.inl rfl
    · exact h.vis b
  · have e' : (A.heap.push o)[b]? = _ := e
    rw [hA] at e'
    split at e'
    · cases e'; exact ho.elim
    · exact h.nv _ _ _ e'
  · show (A.heap.push o)[b]? = _ ∧ (w.heap.push o)[b]? = _
    rw [hA, hW, if_neg (lt hb), if_neg (lt hb)]
    exact ⟨hb, rfl⟩
  · obtain ⟨c, T, e, _⟩ := hb
    show (A.heap.push o)[b]? = _ ∧ (w.heap.push o)[b]? = _
    rw [hA, hW, if_neg (lt e), if_neg (lt e)]
    exact ⟨rfl, rfl⟩
  · show (A.heap.push o)[b]? = (w.heap.push o)[b]?
    rw [hA, hW, hb]
  · refine ⟨Nat.lt_of_lt_of_le hb.1 (by simp), ?_⟩
    show (A.heap.push o)[b]? ≠ _
    rw [hA, if_neg (by have := hb.1; omega)]
    exact hb.2
  · obtain ⟨c, T, e, h2⟩ := hr
    have e' : (A.heap.push o)[b]? = some (ro c T) := e
    rw [hA, if_neg (by omega)] at e'
    exact ⟨c, T, e', h2⟩
theorem obj_same {A w : World} (h : Hid A w) {r : Nat} {o : Obj} (hr : A.heap[r]? = some o) (hn : NotCells o) : w.heap[r]? = some o ∧ Seen A r ∧ ¬ Ro A r := by
  refine ⟨?_, ⟨(Array.getElem?_eq_some_iff.1 hr).1, fun e => ?_⟩, ?_⟩
  · rcases h.vis r with e | e | ⟨c', T', fr', e1, e2⟩
    · exact e ▸ hr
    · rw [e] at hr; cases hr; exact hn.elim
    · rw [e1] at hr; cases hr; exact hn.elim
  · rw [e] at hr; cases hr; exact hn.elim
  · rintro ⟨c, T, e, _⟩
    rw [e] at hr; cases hr; exact hn.elim
theorem hid_set {A w : World} (h : Hid A w) {r : Nat} {o o' : Obj} (hr : A.heap[r]? = some o) (hn : NotCells o) (hn' : NotCells o') (hv' : NotView o') :
    Hid { A with heap := A.heap.setIfInBounds r o' } { w with heap := w.heap.setIfInBounds r o' } ∧ Turn A w { A with heap := A.heap.setIfInBounds r o' } { w with heap := w.heap.setIfInBounds r o' } := by
  obtain ⟨hw, hs, hnr⟩ := obj_same h hr hn
  have hlt : r < A.heap.size := hs.1
  have hltw : r < w.heap.size := by rw [← h.sz]; exact hlt
  have hA : ∀ b : Nat, (A.heap.setIfInBounds r o')[b]? = if b = r then some o' else A.heap[b]? := fun b => by
    by_cases e : r = b
    · subst e; simp [hlt]
    · rw [Array.getElem?_setIfInBounds_ne e, if_neg (fun x => e x.symm)]
  have hW : ∀ b : Nat, (w.heap.setIfInBounds r o')[b]? = if b = r then some o' else w.heap[b]? := fun b => by
    by_cases e : r = b
    · subst e; simp [hltw]
    · rw [Array.getElem?_setIfInBounds_ne e, if_neg (fun x => e x.symm)]
  have npz : some o' ≠ some pz := fun e => by cases e; exact hn'.elim
  refine ⟨⟨by simp [h.sz], h.tape, h.drawn, h.os, h.output, fun b => ?_, fun b at_ u e => ?_⟩, ⟨by simp, fun b hb => ?_, fun b hb => ?_, fun b hb => ?_, fun b hb => ?_, fun b hb hro => ?_, rfl, rfl, rfl⟩⟩
  · show Vis (A.heap.setIfInBounds r o')[b]? (w.heap.setIfInBounds r o')[b]?
    rw [hA, hW]
    split
    · exact Or.inl rfl
    · exact h.vis b
  · have e' : (A.heap.setIfInBounds r o')[b]? = _ := e
    rw [hA] at e'
    split at e'
    · cases e'; exact hv'.elim
    · exact h.nv _ _ _ e'
  · have hne : b ≠ r := fun e => by subst e; exact hs.2 hb
    show (A.heap.setIfInBounds r o')[b]? = _ ∧ (w.heap.setIfInBounds r o')[b]? = _
    rw [hA, hW, if_neg hne, if_neg hne]
    exact ⟨hb, rfl⟩
  · have hne : b ≠ r := fun e => by subst e; exact hnr hb
    show (A.heap.setIfInBounds r o')[b]? = _ ∧ (w.heap.setIfInBounds r o')[b]? = _
    rw [hA, hW, if_neg hne, if_neg hne]
    exact ⟨rfl, rfl⟩
  · show (A.heap.setIfInBounds r o')[b]? = (w.heap.setIfInBounds r o')[b]?
    rw [hA, hW, hb]
  · refine ⟨by simpa using hb.1, ?_⟩
    show (A.heap.setIfInBounds r o')[b]? ≠ _
    rw [hA]
    split
    · exact npz
    · exact hb.2
  · obtain ⟨c, T, e, h2⟩ := hro
    have e' : (A.heap.setIfInBounds r o')[b]? = some (ro c T) := e
    rw [hA] at e'
    split at e'
    · cases e'; exact hn'.elim
    · exact ⟨c, T, e', h2⟩
theorem hid_drew {A w : World} (h : Hid A w) (n : Nat) : Hid { A with drawn := A.drawn + n } { w with drawn := w.drawn + n } ∧ Turn A w { A with drawn := A.drawn + n } { w with drawn := w.drawn + n } :=
  ⟨⟨h.sz, h.tape, by show A.drawn + n = w.drawn + n; rw [h.drawn], h.os, h.output, h.vis, h.nv⟩, ⟨Nat.le_refl _, fun b hb => ⟨hb, rfl⟩, fun b hb => ⟨rfl, rfl⟩, fun b hb => hb, fun b hb => hb, fun b _ hb => hb, rfl, rfl, rfl⟩⟩
theorem far_none {P : Program} {A w : World} (h : Hid A w) (a : Addr) (s : Bool) : ∃ e, A.farLoad P a s = .error e := by
  unfold World.farLoad
  split
  · rename_i at_ u e
    exact absurd e (h.nv _ _ _)
  · exact ⟨_, rfl⟩
theorem far_none2 {P : Program} {A w : World} (h : Hid A w) (a : Addr) (v : Value) (s : Bool) : ∃ e, A.farStore P a v s = .error e := by
  unfold World.farStore
  split
  · rename_i at_ u e
    exact absurd e (h.nv _ _ _)
  · exact ⟨_, rfl⟩
def EvsOk (A : World) (es es' : Array Event) : Prop := ∃ r, es' = es ++ r ∧ ∀ e ∈ r, EvOk A e
theorem EvsOk.refl (A : World) (es : Array Event) : EvsOk A es es := ⟨#[], by simp, by simp⟩
theorem EvsOk.cons {A A' w w' : World} {es es' : Array Event} {e : Event} (he : EvOk A e) (t : Turn A w A' w') (h : EvsOk A' (es.push e) es') : EvsOk A' es es' := by
  obtain ⟨r, rfl, hr⟩ := h
  refine ⟨#[e] ++ r, by rw [← Array.append_assoc, Array.append_singleton], fun x hx => ?_⟩
  rcases Array.mem_append.1 hx with h2 | h2
  · have : x = e := by simpa using h2
    subst this
    exact he.up t
  · exact hr x h2
theorem frame {P : Program} {α : Type} : ∀ (s : Sem α), Quiet P s → ∀ {A w : World} {es : Array Event}, Hid A w → ∀ {x : α} {A' : World} {es' : Array Event}, s.runT P A es = (.ok x A', es') →
    ∃ w', s.runT P w es = (.ok x w', es') ∧ Hid A' w' ∧ Turn A w A' w' ∧ EvsOk A' es es'
  | .pure x, _, A, w, es, h, x', A', es', hr => by
    simp only [Sem.runT, Prod.mk.injEq, Result.ok.injEq] at hr
    obtain ⟨⟨rfl, rfl⟩, rfl⟩ := hr
    exact ⟨w, rfl, h, Turn.refl _ _, EvsOk.refl _ _⟩
  | .load m a k, hq, A, w, es, h, x', A', es', hr => by
    obtain ⟨rfl, hq⟩ := hq
    simp only [Sem.runT] at hr ⊢
    cases hc : A.cell? a with
    | some v =>
      rw [hc] at hr
      simp only at hr
      rw [h.cell hc]
      obtain ⟨w', h1, h2, h3, h4⟩ := frame (k v) (hq v) h hr
      exact ⟨w', h1, h2, h3, EvsOk.cons (.read (cell_seen hc)) h3 h4⟩
    | none =>
      rw [hc] at hr
      simp only at hr
      obtain ⟨e, he⟩ := far_none (P := P) h a (Mode.plain == .atomic)
      rw [he] at hr
      simp at hr
  | .store m a v k, hq, A, w, es, h, x', A', es', hr => by
    obtain ⟨rfl, hq⟩ := hq
    have key : ∀ u, A.cell? a = some u → A.frozen? a = false → k.runT P (A.setCell a v) (es.push ⟨.cell a, true, false⟩) = (.ok x' A', es') →
        w.cell? a = some u ∧ w.frozen? a = false ∧ ∃ w', k.runT P (w.setCell a v) (es.push ⟨.cell a, true, false⟩) = (.ok x' w', es') ∧ Hid A' w' ∧ Turn A w A' w' ∧ EvsOk A' es es' := fun u hc hf hr => by
      obtain ⟨h1, h2, h3⟩ := hid_store h hc hf v
      obtain ⟨w', k1, k2, k3, k4⟩ := frame k hq h2 hr
      exact ⟨h.cell hc, h1, w', k1, k2, h3.trans k3, EvsOk.cons (.write (h3.see _ (cell_seen hc)) (fun hr => not_ro_of hc hf (h3.free _ (cell_seen hc).1 hr))) k3 k4⟩
    have none_ : A.cell? a = none → (match A.farStore P a v (Mode.plain == .atomic) with | .ok (w, touched) => k.runT P w (es ++ touched.toArray.map (⟨.cell ·, true, Mode.plain == .atomic⟩)) | .error h => (Result.halt h A, es)) = (.ok x' A', es') → False := fun hc hr => by
      obtain ⟨e, he⟩ := far_none2 (P := P) h a v (Mode.plain == .atomic)
      rw [he] at hr
      simp at hr
    cases v <;> simp only [Sem.runT] at hr ⊢ <;> first | (cases hr; done) | skip
    all_goals
      cases hc : A.cell? a with
      | none => rw [hc] at hr; exact (none_ hc hr).elim
      | some u =>
        rw [hc] at hr
        simp only at hr
        by_cases hf : A.frozen? a = true
        · rw [if_pos hf] at hr; simp at hr
        · rw [if_neg hf] at hr
          obtain ⟨h1, h2, h3⟩ := key u hc (by simpa using hf) hr
          rw [h1, h2]
          exact h3
  | .new o k, hq, A, w, es, h, x', A', es', hr => by
    obtain ⟨hv, hq⟩ := hq
    simp only [Sem.runT] at hr ⊢
    obtain ⟨h2, h3⟩ := hid_new h o hv
    rw [← h.sz]
    obtain ⟨w', k1, k2, k3, k4⟩ := frame (k A.heap.size) (hq _) h2 hr
    exact ⟨w', k1, k2, h3.trans k3, k4⟩
  | .shape r k, hq, A, w, es, h, x', A', es', hr => absurd hr (Dead.quiet (hq _) _ _ _ _ _)
  | .freeze a n k, hq, A, w, es, h, x', A', es', hr => absurd hr (Dead.quiet (s := k) hq _ _ _ _ _)
  | .frozen a k, hq, A, w, es, h, x', A', es', hr => absurd hr (Dead.quiet (hq _) _ _ _ _ _)
  | .getObj r k, hq, A, w, es, h, x', A', es', hr => by
    simp only [Sem.runT] at hr ⊢
    cases ho : A.heap[r]? with
    | none => rw [ho] at hr; simp at hr
    | some o =>
      rw [ho] at hr
      by_cases hn : NotCells o
      · obtain ⟨h1, h2, h3⟩ := obj_same h ho hn
        rw [h1]
        have hr' : (k o).runT P A (es.push ⟨.obj r, false, o.isChan⟩) = (.ok x' A', es') := by cases o <;> first | exact hn.elim | exact hr
        rcases hq o hn with ⟨hc, hqo⟩ | hd
        · rw [hc] at hr'
          obtain ⟨w', k1, k2, k3, k4⟩ := frame (k o) hqo h hr'
          refine ⟨w', ?_, k2, k3, EvsOk.cons (.obj h2 h3) k3 k4⟩
          cases o <;> first | exact hn.elim | exact k1 | (cases hc)
        · exact absurd hr' (Dead.quiet hd _ _ _ _ _)
      · cases o <;> first | exact absurd trivial hn | (simp at hr)
  | .setObj r o' k, hq, A, w, es, h, x', A', es', hr => by
    obtain ⟨⟨hn', hv', hc'⟩, hq⟩ := hq
    simp only [Sem.runT] at hr ⊢
    cases ho : A.heap[r]? with
    | none => rw [ho] at hr; simp at hr
    | some o =>
      rw [ho] at hr
      by_cases hn : NotCells o
      · obtain ⟨h1, h2, h3⟩ := obj_same h ho hn
        obtain ⟨g1, g2⟩ := hid_set h ho hn hn' hv'
        rw [h1]
        have hr' : k.runT P { A with heap := A.heap.setIfInBounds r o' } (es.push ⟨.obj r, true, o'.isChan⟩) = (.ok x' A', es') := by cases o <;> first | exact hn.elim | exact hr
        rw [hc'] at hr'
        obtain ⟨w', k1, k2, k3, k4⟩ := frame k hq g1 hr'
        refine ⟨w', ?_, k2, g2.trans k3, EvsOk.cons (.obj (g2.see _ h2) (fun hr => h3 (g2.free _ h2.1 hr))) k3 k4⟩
        cases o <;> first | exact hn.elim | (simp only [hc']; exact k1)
      · cases o <;> first | exact absurd trivial hn | (simp at hr)
  | .choose q k, hq, A, w, es, h, x', A', es', hr => by
    simp only [Sem.runT] at hr ⊢
    by_cases hf : q.forced = true
    · rw [if_pos hf] at hr ⊢
      exact frame (k 0) (hq _) h hr
    · rw [if_neg hf] at hr ⊢
      obtain ⟨h2, h3⟩ := hid_drew h 1
      rw [← h.tape, ← h.drawn]
      obtain ⟨w', k1, k2, k3, k4⟩ := frame _ (hq _) h2 hr
      refine ⟨w', ?_, k2, h3.trans k3, k4⟩
      rw [← h.drawn, ← h.tape] at k1
      exact k1
  | .sys c k, hq, A, w, es, h, x', A', es', hr => absurd hr (Dead.quiet (hq _) _ _ _ _ _)
  | .program k, hq, A, w, es, h, x', A', es', hr => by
    simp only [Sem.runT] at hr ⊢
    exact frame (k P) hq h hr
  | .mark m k, hq, A, w, es, h, x', A', es', hr => by
    simp only [Sem.runT] at hr ⊢
    rcases hq with ⟨rfl, hq⟩ | hq
    · obtain ⟨w', k1, k2, k3, k4⟩ := frame k hq h hr
      exact ⟨w', k1, k2, k3, EvsOk.cons .room k3 k4⟩
    · exact absurd hr (Dead.quiet (s := k) hq _ _ _ _ _)
  | .halt e, _, A, w, es, h, x', A', es', hr => by simp [Sem.runT] at hr
end Go.Dw.J
end
section
namespace Go.Dw.J
open Go.Dw Go.Conc Go.RowKit
set_option linter.unusedVariables false
set_option linter.unusedSimpArgs false
set_option linter.unusedSectionVars false
def Ext (A A1 : World) : Prop := ∃ m, A1.heap = A.heap ++ Array.replicate m pz ∧ A1.os = A.os ∧ A1.output = A.output
theorem Ext.refl (A : World) : Ext A A := ⟨0, by simp, rfl, rfl⟩
theorem Ext.trans {A B C : World} (h : Ext A B) (k : Ext B C) : Ext A C := by
  obtain ⟨m, h1, h2, h3⟩ := h
  obtain ⟨m', k1, k2, k3⟩ := k
  exact ⟨m + m', by rw [k1, h1, Array.append_assoc, Array.replicate_append_replicate], k2.trans h2, k3.trans h3⟩
theorem Ext.size {A B : World} (h : Ext A B) : A.heap.size ≤ B.heap.size := by
  obtain ⟨m, h1, _⟩ := h
  rw [h1]; simp
theorem Ext.get {A B : World} (h : Ext A B) {b : Nat} (hb : b < A.heap.size) : B.heap[b]? = A.heap[b]? := by
  obtain ⟨m, h1, _⟩ := h
  rw [h1, Array.getElem?_append_left hb]
theorem Ext.new {A B : World} (h : Ext A B) {b : Nat} (h1 : A.heap.size ≤ b) (h2 : b < B.heap.size) : B.heap[b]? = some pz := by
  obtain ⟨m, e, _⟩ := h
  rw [e, Array.getElem?_append_right h1]
  rw [e] at h2
  simp at h2
  rw [Array.getElem?_replicate, if_pos (by omega)]
theorem Ext.grown {A B : World} (h : Ext A B) (ht : B.tape = A.tape) (r : Option Nat) : A.grownBy B r := ⟨h.choose_spec.2.1, ht, h.choose_spec.2.2, h.size, fun b hb _ => h.get hb⟩
def norm (A A1 : World) : World := { A1 with tape := A.tape, drawn := A.drawn }
theorem Ext.norm {A A1 : World} (h : Ext A A1) : Ext A (norm A A1) := h
structure Sees (A w : World) : Prop where
  os : A.os = w.os
  output : A.output = w.output
  size : A.heap.size ≤ w.heap.size
  vis : ∀ b : Nat, b < A.heap.size → Vis A.heap[b]? w.heap[b]?
  nv : ∀ (b : Nat) (at_ : Addr) (u : TypeId), A.heap[b]? ≠ some (.view at_ u)
def runW (A w : World) : World := { heap := A.heap ++ Array.replicate (w.heap.size - A.heap.size) pz, tape := w.tape, drawn := w.drawn, os := A.os, output := A.output }
theorem runW_ext (A w : World) : Ext A (runW A w) := ⟨_, rfl, rfl, rfl⟩
theorem Sees.hid {A w : World} (h : Sees A w) : Hid (runW A w) w := by
  have hs : (runW A w).heap.size = w.heap.size := by simp [runW]; have := h.size; omega
  refine ⟨hs, rfl, rfl, h.os, h.output, fun b => ?_, fun b at_ u e => ?_⟩
  · rcases Nat.lt_or_ge b A.heap.size with h1 | h1
    · rw [(runW_ext A w).get h1]; exact h.vis b h1
    · rcases Nat.lt_or_ge b w.heap.size with h2 | h2
      · exact Or.inr (Or.inl ((runW_ext A w).new h1 (by rw [hs]; exact h2)))
      · rw [Array.getElem?_eq_none (by rw [hs]; exact h2), Array.getElem?_eq_none h2]; exact Or.inl rfl
  · rcases Nat.lt_or_ge b A.heap.size with h1 | h1
    · rw [(runW_ext A w).get h1] at e; exact h.nv _ _ _ e
    · rcases Nat.lt_or_ge b (runW A w).heap.size with h2 | h2
      · rw [(runW_ext A w).new h1 h2] at e; cases e
      · rw [Array.getElem?_eq_none h2] at e; cases e
theorem Hid.sees {A w : World} (h : Hid A w) : Sees A w := ⟨h.os, h.output, Nat.le_of_eq h.sz, fun b _ => h.vis b, h.nv⟩
theorem Sees.norm {A B w : World} (h : Sees B w) : Sees (norm A B) w := ⟨h.os, h.output, h.size, h.vis, h.nv⟩
theorem Sees.ext {A A1 w : World} (h : Sees A1 w) (he : Ext A A1) : Sees A w :=
  ⟨he.choose_spec.2.1.symm.trans h.os, he.choose_spec.2.2.symm.trans h.output, Nat.le_trans he.size h.size, fun b hb => by rw [← he.get hb]; exact h.vis b (Nat.lt_of_lt_of_le hb he.size), fun b at_ u e => by
    have hb := (Array.getElem?_eq_some_iff.1 e).1
    rw [← he.get hb] at e
    exact h.nv _ _ _ e⟩
structure Turns (A w A' w' : World) : Prop where
  hid : ∀ b : Nat, b < w.heap.size → ¬ Seen A b → w'.heap[b]? = w.heap[b]? ∧ ¬ Seen A' b
  read : ∀ b : Nat, Ro A b → w'.heap[b]? = w.heap[b]? ∧ A'.heap[b]? = A.heap[b]?
  own : ∀ b : Nat, Seen A b → ¬ Ro A b → ¬ Ro A' b
  see : ∀ b : Nat, Seen A b → Seen A' b
  le : w.heap.size ≤ w'.heap.size
  tape : w'.tape = w.tape
  os : w'.os = w.os
  output : w'.output = w.output
  eq : ∀ b : Nat, Seen A b → A.heap[b]? = w.heap[b]? → A'.heap[b]? = w'.heap[b]?
theorem Turns.refl (A w : World) : Turns A w A w := ⟨fun b _ h => ⟨rfl, h⟩, fun b h => ⟨rfl, rfl⟩, fun b _ h => h, fun b h => h, Nat.le_refl _, rfl, rfl, rfl, fun b _ h => h⟩
theorem seen_run {A w : World} (b : Nat) : Seen (runW A w) b ↔ Seen A b := by
  constructor
  · rintro ⟨h1, h2⟩
    rcases Nat.lt_or_ge b A.heap.size with h3 | h3
    · exact ⟨h3, by rw [← (runW_ext A w).get h3]; exact h2⟩
    · exact absurd ((runW_ext A w).new h3 h1) h2
  · rintro ⟨h1, h2⟩
    exact ⟨Nat.lt_of_lt_of_le h1 (runW_ext A w).size, by rw [(runW_ext A w).get h1]; exact h2⟩
theorem ro_lt {A : World} {b : Nat} (h : Ro A b) : b < A.heap.size := let ⟨_, _, e, _⟩ := h; (Array.getElem?_eq_some_iff.1 e).1
theorem ro_run {A w : World} {b : Nat} (h : Ro A b) : Ro (runW A w) b := let ⟨c, T, e, h2⟩ := h; ⟨c, T, by rw [(runW_ext A w).get (ro_lt h)]; exact e, h2⟩
theorem ro_seen {A : World} {b : Nat} (h : Ro A b) : Seen A b := ⟨ro_lt h, fun e => by obtain ⟨c, T, e2, h2⟩ := h; rw [e2] at e; simp [ro, pz] at e; rw [e.1] at h2; simp at h2⟩
theorem turns_of {A w A1' w' : World} (hs : Sees A w) (h : Turn (runW A w) w A1' w') (h2 : Hid A1' w') : Turns A w (norm A A1') w' := by
  have hsz := hs.hid.sz
  refine ⟨fun b hb hn => ?_, fun b hr => ?_, fun b h1 h3 h4 => ?_, fun b h1 => h.see b ((seen_run b).2 h1), ?_, h.tape, h.os, h.output, fun b h1 h3 => h.eq b (by rw [(runW_ext A w).get h1.1]; exact h3)⟩
  · have e : (runW A w).heap[b]? = some pz := by
      have hn' : ¬ Seen (runW A w) b := fun x => hn ((seen_run b).1 x)
      exact Classical.byContradiction fun x => hn' ⟨by rw [hsz]; exact hb, x⟩
    obtain ⟨x, y⟩ := h.hid b e
    exact ⟨y, fun z => z.2 x⟩
  · obtain ⟨x, y⟩ := h.read b (ro_run hr)
    exact ⟨y, x.trans ((runW_ext A w).get (ro_lt hr))⟩
  · have hb := h1.1
    obtain ⟨c, T, e, h5⟩ := h.free b (Nat.lt_of_lt_of_le hb (runW_ext A w).size) h4
    rw [(runW_ext A w).get hb] at e
    exact h3 ⟨c, T, e, h5⟩
  · rw [← hsz, ← h2.sz]; exact h.le
theorem EvOk.norm {A A1 : World} {e : Event} (h : EvOk A1 e) : EvOk (norm A A1) e := by
  cases h with
  | read h => exact .read h
  | write h h2 => exact .write h h2
  | obj h h2 => exact .obj h h2
  | room => exact .room
def ato (b : Frame) (a : Act) (todo : List Item) : Frame := { b with tmps := a.tmps, todo := todo, defers := a.defers ++ b.defers, mode := .run }
theorem ato_at {b : Frame} (h1 : b.roundOf = none) (h2 : b.defers = []) (a : Act) (todo : List Item) : ato b a todo = b.at a todo := by simp [ato, Frame.at, h1, h2]
theorem eval_ato (b : Frame) (a : Act) (todo : List Item) : (ato b a todo).eval = a.eval := funext fun x => by cases x <;> rfl
theorem finish_ato (b : Frame) (a : Act) (ops : Array Oper) (i : Nat) (rest : List Nat) (k : List Item) (v : Value) :
    (ato b a (.inRegion ops (i :: rest) :: k)).finish v = ato b (a.put ((ops[i]?).bind (·.dst)) v) (.inRegion ops rest :: k) := by
  cases h : (ops[i]?).bind (·.dst) <;> simp [Frame.finish, ato, Act.put, h]
section
variable {P : Program} {main : Bool} {b : Frame} {a : Act} {k : List Item} {cs : List Frame} {w : World}
theorem stepG_skip : stepG P main (G (ato b a (.code .skip :: k)) cs) w = .go (G (ato b a k) cs) w := by simp [G, stepG, stepG.exec, ato]
theorem stepG_inBlock {id : Nat} : stepG P main (G (ato b a (.inBlock id :: k)) cs) w = .go (G (ato b a k) cs) w := by simp [G, stepG, stepG.exec, ato]
theorem stepG_seq {x y : Code} : stepG P main (G (ato b a (.code (.seq x y) :: k)) cs) w = .go (G (ato b a (.code x :: .code y :: k)) cs) w := by simp [G, stepG, stepG.exec, ato]
theorem stepG_cond {c : Operand} {x y : Code} {t : Bool} (h : a.eval c = .bool t) :
    stepG P main (G (ato b a (.code (.cond c x y) :: k)) cs) w = .go (G (ato b a (.code (if t then x else y) :: k)) cs) w := by
  have h' := congrFun (eval_ato b a (.code (.cond c x y) :: k)) c
  simp only [ato] at h'
  simp [G, stepG, stepG.exec, ato, h', h]
theorem stepG_block {id : Nat} {c : Code} : stepG P main (G (ato b a (.code (.block id c) :: k)) cs) w = .go (G (ato b a (.code c :: .inBlock id :: k)) cs) w := by simp [G, stepG, stepG.exec, ato]
theorem stepG_loop {c : Code} : stepG P main (G (ato b a (.code (.loop c) :: k)) cs) w = .go (G (ato b a (.code c :: .inLoop c :: k)) cs) w := by simp [G, stepG, stepG.exec, ato]
theorem stepG_inLoop {c : Code} : stepG P main (G (ato b a (.inLoop c :: k)) cs) w = .go (G (ato b a (.code c :: .inLoop c :: k)) cs) w := by simp [G, stepG, stepG.exec, ato]
theorem stepG_exit {id : Nat} {k' : List Item} (h : exitTo id k = some k') : stepG P main (G (ato b a (.code (.exit id) :: k)) cs) w = .go (G (ato b a k') cs) w := by simp [G, stepG, stepG.exec, ato, h]
theorem stepG_region {id : Nat} {ops : Array Oper} : stepG P main (G (ato b a (.code (.region id ops false) :: k)) cs) w = .go (G (ato b a (.inRegion ops (List.range ops.size) :: k)) cs) w := by simp [G, stepG, stepG.exec, ato]
theorem stepG_region_end {ops : Array Oper} : stepG P main (G (ato b a (.inRegion ops [] :: k)) cs) w = .go (G (ato b a k) cs) w := by simp [G, stepG, stepG.exec, ato]
theorem stepG_region_draw {id : Nat} {ops : Array Oper} : stepG P main (G (ato b a (.code (.region id ops true) :: k)) cs) w =
    .go (G (ato b a (.inRegion ops (Region.schedule (P.follows .mixedOrders) ops (w.tape w.drawn (.order b.fn id))) :: k)) cs) { w with drawn := w.drawn + 1 } := by
  simp [G, stepG, stepG.exec, ato, choose, Sem.run, Question.forced, Question.cut]
theorem stepG_end (hr : b.roundOf = none) : stepG P main (G (ato b a []) cs) w = .go (G { ato b a [] with mode := .returning } cs) w := by simp [G, stepG, stepG.exec, ato, hr]
theorem stepG_ret (hr : b.roundOf = none) : stepG P main (G (ato b a (.code .ret :: k)) cs) w = .go (G { ato b a (.code .ret :: k) with mode := .returning } cs) w := by simp [G, stepG, stepG.exec, ato, hr]
variable {ops : Array Oper} {i : Nat} {rest : List Nat} {o : Oper}
theorem stepG_oper (ho : ops[i]? = some o) (hw : Region.wanted o (yielded ops a.tmps) = true) (hnd : ∀ c, o.op ≠ .defer c) :
    stepG P main (G (ato b a (.inRegion ops (i :: rest) :: k)) cs) w = stepG.apply P true (ato b a (.inRegion ops (i :: rest) :: k)) cs none (execOp a.eval o) w := by
  have he := eval_ato b a (.inRegion ops (i :: rest) :: k)
  simp only [ato] at he
  simp only [G, stepG, stepG.exec, stepG.oper, Frame.oper?, ato, ho, hw, he, Option.map_some, Option.getD_some, if_true]
  split
  · rename_i hdef
    exact absurd hdef (hnd _)
  · rfl
theorem not_defer {ρ : Operand → Value} {x : Next} {w' : World} (hr : (execOp ρ o).run P w = .ok x w') (hx : ∀ d, x ≠ .defer d) : ∀ c, o.op ≠ .defer c := fun c hc => by
  unfold execOp at hr
  rw [hc] at hr
  simp only [Sem.run_bind] at hr
  cases h : (resolve ρ c o.type).run P w with
  | ok d w1 =>
    rw [h] at hr
    simp only [Result.andThen_ok, Sem.run_pure, Result.ok.injEq] at hr
    exact hx d hr.1.symm
  | halt e w1 => rw [h] at hr; cases hr
theorem stepG_value {v : Value} {w' : World} (ho : ops[i]? = some o) (hw : Region.wanted o (yielded ops a.tmps) = true) (hk : b.kind ≠ .early) (hr : (execOp a.eval o).run P w = .ok (.value v) w') :
    stepG P main (G (ato b a (.inRegion ops (i :: rest) :: k)) cs) w = .go (G (ato b (a.put o.dst v) (.inRegion ops rest :: k)) cs) w' (listed P b.fn a o w) := by
  have hfin : (ato b a (.inRegion ops (i :: rest) :: k)).finish v = ato b (a.put o.dst v) (.inRegion ops rest :: k) := by rw [finish_ato, ho]; rfl
  have hk' : (b.kind == CallKind.early) = false := by simpa using hk
  rw [stepG_oper ho hw (not_defer hr (by simp)), ← hfin]
  simp [stepG.apply, hr, G, ato, hk', GStep.after, listed]
theorem stepG_none {w' : World} (ho : ops[i]? = some o) (hw : Region.wanted o (yielded ops a.tmps) = true) (hk : b.kind ≠ .early) (hr : (execOp a.eval o).run P w = .ok .skip w') :
    stepG P main (G (ato b a (.inRegion ops (i :: rest) :: k)) cs) w = .go (G (ato b (a.put o.dst undef) (.inRegion ops rest :: k)) cs) w' (listed P b.fn a o w) := by
  have hfin : (ato b a (.inRegion ops (i :: rest) :: k)).finish undef = ato b (a.put o.dst undef) (.inRegion ops rest :: k) := by rw [finish_ato, ho]; rfl
  have hk' : (b.kind == CallKind.early) = false := by simpa using hk
  rw [stepG_oper ho hw (not_defer hr (by simp)), ← hfin]
  simp [stepG.apply, hr, G, ato, hk', GStep.after, listed]
theorem stepG_unwanted (ho : ops[i]? = some o) (hw : Region.wanted o (yielded ops a.tmps) = false) :
    stepG P main (G (ato b a (.inRegion ops (i :: rest) :: k)) cs) w = .go (G (ato b (a.put o.dst undef) (.inRegion ops rest :: k)) cs) w #[] := by
  have hfin : (ato b a (.inRegion ops (i :: rest) :: k)).finish undef = ato b (a.put o.dst undef) (.inRegion ops rest :: k) := by rw [finish_ato, ho]; rfl
  rw [← hfin]
  simp [G, stepG, stepG.exec, ato, ho, hw]
end
class Comp where
  main : Bool
  inv : World → World → Prop
  sp : World → World → World → World → Array Event → Prop
  ok : (Goroutine → World → Prop) → Prop
def StepJ [Comp] (P : Program) (K : Goroutine → World → Prop) (g : Goroutine) (A : World) : Prop :=
  g.status = .running ∧ ∀ w, Sees A w → Comp.inv A w → ∃ g' A' w' es, stepG P Comp.main g w = .go g' w' es ∧ Sees A' w' ∧ ((A'.tape = A.tape ∧ Turns A w A' w' ∧ ∀ e ∈ es, EvOk A' e) ∨ Comp.sp A w A' w' es) ∧ K g' A'
theorem StepJ.quiet [Comp] {P : Program} {K : Goroutine → World → Prop} {g : Goroutine} {A : World} (hr : g.status = .running)
    (h : ∀ w, Sees A w → ∃ g' A' w' es, stepG P Comp.main g w = .go g' w' es ∧ A'.tape = A.tape ∧ Sees A' w' ∧ Turns A w A' w' ∧ (∀ e ∈ es, EvOk A' e) ∧ K g' A') : StepJ P K g A :=
  ⟨hr, fun w hs _ => let ⟨g', A', w', es, h1, h2, h3, h4, h5, h6⟩ := h w hs; ⟨g', A', w', es, h1, h3, Or.inl ⟨h2, h4, h5⟩, h6⟩⟩
structure Closed [Comp] (P : Program) (J : Goroutine → World → Prop) : Prop where
  step : ∀ g A, StepJ P J g A → J g A
  ext : ∀ g A A1, Ext A A1 → A1.tape = A.tape → J g A → J g A1
  extra : Comp.ok J
section
variable [Comp] {P : Program} {J : Goroutine → World → Prop} {A : World}
theorem Closed.move (hJ : Closed P J) {g g' : Goroutine} (hr : g.status = .running) (h : ∀ w, stepG P Comp.main g w = .go g' w) (hn : J g' A) : J g A :=
  hJ.step g A (.quiet hr fun w hw => ⟨g', A, w, #[], h w, rfl, hw, Turns.refl A w, by simp, hn⟩)
theorem Closed.sem (hJ : Closed P J) {α : Type} {s : Sem α} {g : Goroutine} {next : α → Goroutine} (hr : g.status = .running) (hq : Quiet P s)
    (hst : ∀ w x w' es, s.runT P w #[] = (.ok x w', es) → ∃ es', stepG P Comp.main g w = .go (next x) w' es' ∧ ∀ e ∈ es', e ∈ es)
    (h : ∀ A1, Ext A A1 → ∃ x A1', s.run P A1 = .ok x A1' ∧ J (next x) (norm A A1')) : J g A := by
  refine hJ.step _ _ (.quiet hr fun w hs => ?_)
  obtain ⟨x, A1', hr, hx⟩ := h (runW A w) (runW_ext A w)
  have h1 := Sem.runT_fst P s (runW A w) #[]
  rw [hr] at h1
  obtain ⟨w', k1, k2, k3, k4⟩ := frame s hq hs.hid (x := x) (A' := A1') (es' := (s.runT P (runW A w) #[]).2) (Prod.ext h1 rfl)
  obtain ⟨es', h2, h3⟩ := hst w x w' _ k1
  refine ⟨_, norm A A1', w', es', h2, rfl, k2.sees.norm, turns_of hs k3 k2, fun e he => ?_, hx⟩
  have h5 := h3 e he
  obtain ⟨r, h6, h7⟩ := k4
  rw [h6] at h5
  exact (h7 e (by simpa using h5)).norm
theorem Closed.value (hJ : Closed P J) {b : Frame} {a : Act} {k : List Item} {cs : List Frame} {ops : Array Oper} {i : Nat} {rest : List Nat} {o : Oper} (hb : b.kind ≠ .early) (ho : ops[i]? = some o) (hw : Region.wanted o (yielded ops a.tmps) = true) (hq : Quiet P (execOp a.eval o))
    (h : ∀ A1, Ext A A1 → ∃ x v A1', (execOp a.eval o).run P A1 = .ok x A1' ∧ (x = .value v ∨ (x = .skip ∧ v = undef)) ∧ J (G (ato b (a.put o.dst v) (.inRegion ops rest :: k)) cs) (norm A A1')) :
    J (G (ato b a (.inRegion ops (i :: rest) :: k)) cs) A := by
  refine hJ.step _ _ (.quiet rfl fun w hs => ?_)
  obtain ⟨x, v, A1', hr, hx, hv⟩ := h (runW A w) (runW_ext A w)
  have h1 := Sem.runT_fst P (execOp a.eval o) (runW A w) #[]
  rw [hr] at h1
  obtain ⟨w', k1, k2, k3, k4⟩ := frame (execOp a.eval o) hq hs.hid (x := x) (A' := A1') (es' := ((execOp a.eval o).runT P (runW A w) #[]).2) (Prod.ext h1 rfl)
  have hrun : (execOp a.eval o).run P w = .ok x w' := by rw [← Sem.runT_fst P (execOp a.eval o) w #[], k1]
  have hes : listed P b.fn a o w = seen P b.fn ((execOp a.eval o).runT P (runW A w) #[]).2 := by unfold listed Sem.events; rw [k1]
  have hev : ∀ e ∈ listed P b.fn a o w, EvOk (norm A A1') e := fun e he => by
    rw [hes] at he
    have h5 := mem_seen he
    obtain ⟨r, h6, h7⟩ := k4
    rw [h6] at h5
    exact (h7 e (by simpa using h5)).norm
  rcases hx with rfl | ⟨rfl, rfl⟩
  · exact ⟨_, norm A A1', w', _, stepG_value ho hw hb hrun, rfl, k2.sees.norm, turns_of hs k3 k2, hev, hv⟩
  · exact ⟨_, norm A A1', w', _, stepG_none ho hw hb hrun, rfl, k2.sees.norm, turns_of hs k3 k2, hev, hv⟩
def Enters (P : Program) (x : Next) (F0 : Frame) : Prop :=
  (∃ k args, x = .enter k args ∧ F0 = Frame.enter P k args .normal) ∨ (∃ l fn tmps assign body, x = .round l fn tmps assign body ∧ F0 = Frame.round l fn tmps assign body .normal)
theorem stepG_enters {b : Frame} {a : Act} {k : List Item} {cs : List Frame} {w w' : World} {main : Bool} {ops : Array Oper} {i : Nat} {rest : List Nat} {o : Oper} {x : Next} {F0 : Frame} (ho : ops[i]? = some o) (hw : Region.wanted o (yielded ops a.tmps) = true)
    (hk : b.kind ≠ .early) (hr : (execOp a.eval o).run P w = .ok x w') (he : Enters P x F0) :
    stepG P main (G (ato b a (.inRegion ops (i :: rest) :: k)) cs) w = .go (G F0 (ato b a (.inRegion ops (i :: rest) :: k) :: cs)) w' (listed P b.fn a o w) := by
  have hk' : (b.kind == CallKind.early) = false := by simpa using hk
  rcases he with ⟨k', args, rfl, rfl⟩ | ⟨l, fn, tmps, assign, body, rfl, rfl⟩ <;>
  · rw [stepG_oper ho hw (not_defer hr (by simp))]
    simp [stepG.apply, hr, G, ato, hk', GStep.after, listed]
theorem Closed.enter (hJ : Closed P J) {b : Frame} {a : Act} {k : List Item} {cs : List Frame} {ops : Array Oper} {i : Nat} {rest : List Nat} {o : Oper} {F0 : Frame} (hb : b.kind ≠ .early) (ho : ops[i]? = some o) (hw : Region.wanted o (yielded ops a.tmps) = true) (hq : Quiet P (execOp a.eval o))
    (h : ∀ A1, Ext A A1 → ∃ x, (execOp a.eval o).run P A1 = .ok x A1 ∧ Enters P x F0) (hn : J (G F0 (ato b a (.inRegion ops (i :: rest) :: k) :: cs)) A) :
    J (G (ato b a (.inRegion ops (i :: rest) :: k)) cs) A := by
  refine hJ.step _ _ (.quiet rfl fun w hs => ?_)
  obtain ⟨x, hr, hx⟩ := h (runW A w) (runW_ext A w)
  have h1 := Sem.runT_fst P (execOp a.eval o) (runW A w) #[]
  rw [hr] at h1
  obtain ⟨w', k1, k2, k3, k4⟩ := frame (execOp a.eval o) hq hs.hid (x := x) (A' := runW A w) (es' := ((execOp a.eval o).runT P (runW A w) #[]).2) (Prod.ext h1 rfl)
  have hrun : (execOp a.eval o).run P w = .ok x w' := by rw [← Sem.runT_fst P (execOp a.eval o) w #[], k1]
  have hes : listed P b.fn a o w = seen P b.fn ((execOp a.eval o).runT P (runW A w) #[]).2 := by unfold listed Sem.events; rw [k1]
  refine ⟨_, norm A (runW A w), w', _, stepG_enters ho hw hb hrun hx, rfl, k2.sees.norm, turns_of hs k3 k2, fun e he => ?_, hJ.ext _ _ _ (runW_ext A w).norm rfl hn⟩
  rw [hes] at he
  have h5 := mem_seen he
  obtain ⟨r, h6, h7⟩ := k4
  rw [h6] at h5
  exact (h7 e (by simpa using h5)).norm
def FrameR (P : Program) (F0 : Frame) (A : World) (R : Value → World → Prop) : Prop :=
  ∀ J, Closed P J → ∀ (c : Frame) (cs : List Frame), (∀ v A', R v A' → J (G (c.finish v) cs) A') → J (G F0 (c :: cs)) A
theorem FrameR.mono {F0 : Frame} {R R' : Value → World → Prop} (h : FrameR P F0 A R) (hr : ∀ v w', R v w' → R' v w') : FrameR P F0 A R' :=
  fun J hJ c cs hk => h J hJ c cs fun v A' hR => hk v A' (hr v A' hR)
theorem FrameR.ext {F0 : Frame} {R : Value → World → Prop} {A1 : World} (h : FrameR P F0 A R) (he : Ext A A1) (ht : A1.tape = A.tape) : FrameR P F0 A1 R :=
  fun J hJ c cs hk => hJ.ext _ _ _ he ht (h J hJ c cs hk)
def CallsR (P : Program) (k : FuncId) (args : Array Value) (A : World) (R : Value → World → Prop) : Prop := FrameR P (Frame.enter P k args .normal) A R
theorem CallsR.mono {k : FuncId} {args : Array Value} {R R' : Value → World → Prop} (h : CallsR P k args A R) (hr : ∀ v w', R v w' → R' v w') : CallsR P k args A R' := FrameR.mono h hr
end
def contJ (J : Goroutine → World → Prop) (b : Frame) (k : List Item) (cs : List Frame) : Exit → Act → World → Prop
  | .normal, a, A => J (G (ato b a k) cs) A
  | .exit id, a, A => ∃ k', exitTo id k = some k' ∧ J (G (ato b a k') cs) A
  | .ret, a, A => ∀ k2, J (G (ato b a (.code .ret :: k2)) cs) A
  | _, _, _ => False
def Wpf [Comp] (P : Program) (n : Nat) (Q : Exit → Fr → World → Prop) (c : Code) (f : Fr) (A : World) : Prop :=
  ∀ J, Closed P J → ∀ b : Frame, b.kind ≠ .early → ∀ k cs a, FEq n a f → (∀ e a' f' A', FEq n a' f' → Q e f' A' → contJ J b k cs e a' A') → J (G (ato b a (.code c :: k)) cs) A
section
variable [Comp] {P : Program} {n : Nat} {Q : Exit → Fr → World → Prop} {f : Fr} {A : World}
theorem Wpf.mono {Q' : Exit → Fr → World → Prop} {c : Code} (h : Wpf P n Q c f A) (hq : ∀ e f A, Q e f A → Q' e f A) : Wpf P n Q' c f A :=
  fun J hJ b hb k cs a ha hc => h J hJ b hb k cs a ha fun e a' f' A' hf hQ => hc e a' f' A' hf (hq _ _ _ hQ)
theorem wpf_skip (h : Q .normal f A) : Wpf P n Q .skip f A := fun J hJ b hb k cs a ha hc => hJ.move rfl (fun w => stepG_skip) (hc .normal a f A ha h)
theorem wpf_ret (h : Q .ret f A) : Wpf P n Q .ret f A := fun J hJ b hb k cs a ha hc => hc .ret a f A ha h k
theorem wpf_exit {id : Nat} (h : Q (.exit id) f A) : Wpf P n Q (.exit id) f A := fun J hJ b hb k cs a ha hc => by
  obtain ⟨k', h1, h2⟩ := hc (.exit id) a f A ha h
  exact hJ.move rfl (fun w => stepG_exit h1) h2
theorem contJ_pass {J : Goroutine → World → Prop} {b : Frame} {k : List Item} {cs : List Frame} {x : Item} (hx : ∀ id, exitTo id (x :: k) = exitTo id k) {e : Exit} {a : Act} (he : e ≠ .normal) (h : contJ J b k cs e a A) : contJ J b (x :: k) cs e a A := by
  cases e with
  | normal => exact absurd rfl he
  | exit id => obtain ⟨k', h1, h2⟩ := h; exact ⟨k', (hx id).trans h1, h2⟩
  | ret => exact h
  | goto l => exact h.elim
  | panic c => exact h.elim
  | outgrown => exact h.elim
theorem wpf_seq {x y : Code} (h : Wpf P n (thn (Wpf P n Q y) Q) x f A) : Wpf P n Q (.seq x y) f A := fun J hJ b hb k cs a ha hc => by
  refine hJ.move rfl (fun w => stepG_seq) (h J hJ b hb (.code y :: k) cs a ha fun e a' f' A' hf hQ => ?_)
  cases e with
  | normal => exact hQ J hJ b hb k cs a' hf hc
  | exit i => exact contJ_pass (fun _ => rfl) (by simp) (hc _ _ _ _ hf hQ)
  | ret => exact contJ_pass (fun _ => rfl) (by simp) (hc _ _ _ _ hf hQ)
  | goto l => exact (hc _ _ _ _ hf hQ).elim
  | panic c => exact (hc _ _ _ _ hf hQ).elim
  | outgrown => exact (hc _ _ _ _ hf hQ).elim
theorem wpf_seq_mid {x y : Code} (M : Fr → World → Prop) (h : Wpf P n (thn M Q) x f A) (hM : ∀ f A, M f A → Wpf P n Q y f A) : Wpf P n Q (.seq x y) f A :=
  wpf_seq (h.mono fun e f w hq => by cases e <;> first | exact hM _ _ hq | exact hq)
theorem wpf_mid {c : Code} (M : Fr → World → Prop) (h : Wpf P n (thn M Q) c f A) (hM : ∀ f A, M f A → Q .normal f A) : Wpf P n Q c f A :=
  h.mono fun e f w hq => by cases e <;> first | exact hM _ _ hq | exact hq
theorem wpf_block {id : Nat} {c : Code} (h : Wpf P n (blk id Q) c f A) : Wpf P n Q (.block id c) f A := fun J hJ b hb k cs a ha hc => by
  refine hJ.move rfl (fun w => stepG_block) (h J hJ b hb (.inBlock id :: k) cs a ha fun e a' f' A' hf hQ => ?_)
  cases e with
  | normal => exact hJ.move rfl (fun w => stepG_inBlock) (hc .normal a' f' A' hf hQ)
  | exit i =>
    simp only [blk] at hQ
    by_cases hi : i = id
    · rw [if_pos hi] at hQ
      subst hi
      exact ⟨k, by simp [exitTo], hc .normal a' f' A' hf hQ⟩
    · rw [if_neg hi] at hQ
      obtain ⟨k', h1, h2⟩ := hc (.exit i) a' f' A' hf hQ
      refine ⟨k', ?_, h2⟩
      have : (id == i) = false := by simpa using fun e => hi e.symm
      simp [exitTo, this, h1]
  | ret => exact hc .ret a' f' A' hf hQ
  | goto l => exact (hc _ _ _ _ hf hQ).elim
  | panic c => exact (hc _ _ _ _ hf hQ).elim
  | outgrown => exact (hc _ _ _ _ hf hQ).elim
theorem wpf_cond {c : Operand} {x y : Code} {t : Bool} (hc : ev f c = .bool t) (ht : t = true → Wpf P n Q x f A) (hf : t = false → Wpf P n Q y f A) : Wpf P n Q (.cond c x y) f A := fun J hJ b hb k cs a ha hk => by
  have he : a.eval c = .bool t := by rw [ha.eval]; exact hc
  cases t with
  | true => exact hJ.move rfl (fun w => stepG_cond he) (ht rfl J hJ b hb k cs a ha hk)
  | false => exact hJ.move rfl (fun w => stepG_cond he) (hf rfl J hJ b hb k cs a ha hk)
theorem wpf_condt {c : Operand} {x y : Code} {b : Bool} (hc : ev f c = .bool b) (hb : b = true) (h : Wpf P n Q x f A) : Wpf P n Q (.cond c x y) f A := wpf_cond hc (fun _ => h) (fun e => by rw [hb] at e; cases e)
theorem wpf_condf {c : Operand} {x y : Code} {b : Bool} (hc : ev f c = .bool b) (hb : b = false) (h : Wpf P n Q y f A) : Wpf P n Q (.cond c x y) f A := wpf_cond hc (fun e => by rw [hb] at e; cases e) (fun _ => h)
theorem wpf_loopN {c : Code} (I : Nat → Fr → World → Prop) (m₀ : Nat) (h₀ : I m₀ f A)
    (round : ∀ m f A, I m f A → Wpf P n (thn (fun f' A' => ∃ m', m' < m ∧ I m' f' A') Q) c f A) : Wpf P n Q (.loop c) f A := fun J hJ b hb k cs a ha hc => by
  have key : ∀ m f A a, I m f A → FEq n a f → J (G (ato b a (.code c :: .inLoop c :: k)) cs) A := by
    intro m
    induction m using Nat.strongRecOn with
    | _ m ih =>
      intro f A a hI ha
      refine round m f A hI J hJ b hb (.inLoop c :: k) cs a ha fun e a' f' A' hf hQ => ?_
      cases e with
      | normal =>
        obtain ⟨m', hlt, hI'⟩ := hQ
        exact hJ.move rfl (fun w => stepG_inLoop) (ih m' hlt f' A' a' hI' hf)
      | exit i => exact contJ_pass (fun _ => rfl) (by simp) (hc _ _ _ _ hf hQ)
      | ret => exact contJ_pass (fun _ => rfl) (by simp) (hc _ _ _ _ hf hQ)
      | goto l => exact (hc _ _ _ _ hf hQ).elim
      | panic c => exact (hc _ _ _ _ hf hQ).elim
      | outgrown => exact (hc _ _ _ _ hf hQ).elim
  exact hJ.move rfl (fun w => stepG_loop) (key m₀ f A a h₀ ha)
end
def Special [Comp] (P : Program) (ops : Array Oper) (o : Oper) (s : Sem Next) (A : World) (R : Value → World → Prop) : Prop :=
  ∀ J, Closed P J → ∀ b : Frame, b.kind ≠ .early → ∀ (i : Nat) (rest : List Nat) (k : List Item) (cs : List Frame) (a : Act) (o' : Oper), ops[i]? = some o' → o'.dst = o.dst → Region.wanted o' (yielded ops a.tmps) = true → execOp a.eval o' = s →
    (∀ v A', R v A' → J (G (ato b (a.put o.dst v) (.inRegion ops rest :: k)) cs) A') → J (G (ato b a (.inRegion ops (i :: rest) :: k)) cs) A
theorem special_enter [Comp] {P : Program} {ops : Array Oper} {o : Oper} {s : Sem Next} {A : World} {R : Value → World → Prop} {F0 : Frame} (hq : Quiet P s) (h : ∀ A1, Ext A A1 → ∃ x, s.run P A1 = .ok x A1 ∧ Enters P x F0) (hF : FrameR P F0 A R) : Special P ops o s A R := by
  intro J hJ b hb i rest k cs a o' ho hd hw hs hk
  subst hs
  refine hJ.enter hb ho hw hq h (hF J hJ _ cs fun v A' hR => ?_)
  rw [finish_ato, ho]
  have := hk v A' hR
  rw [← hd] at this
  exact this
theorem Special.ext [Comp] {P : Program} {ops : Array Oper} {o : Oper} {s : Sem Next} {A A1 : World} {R : Value → World → Prop} (h : Special P ops o s A R) (he : Ext A A1) (ht : A1.tape = A.tape) : Special P ops o s A1 R :=
  fun J hJ b hb i rest k cs a o' h1 h2 h3 h4 hk => hJ.ext _ _ _ he ht (h J hJ b hb i rest k cs a o' h1 h2 h3 h4 hk)
def OpJ [Comp] (P : Program) (n : Nat) (ops : Array Oper) (o : Oper) (next : Fr → World → Prop) (f : Fr) (A : World) : Prop := ∀ a, FEq n a f →
  (Region.wanted o (yielded ops a.tmps) = true ∧
    ((Quiet P (execOp a.eval o) ∧ ∀ A1, Ext A A1 → ∃ x v A1', (execOp a.eval o).run P A1 = .ok x A1' ∧ (x = .value v ∨ (x = .skip ∧ v = undef)) ∧ ∃ f', FEq n (a.put o.dst v) f' ∧ next f' (norm A A1')) ∨
     (∃ R, Special P ops o (execOp a.eval o) A R ∧ ∀ v A', R v A' → ∃ f', FEq n (a.put o.dst v) f' ∧ next f' A'))) ∨
  (Region.wanted o (yielded ops a.tmps) = false ∧ ∃ f', FEq n (a.put o.dst undef) f' ∧ next f' A)
def WpO [Comp] (P : Program) (n : Nat) (ops : Array Oper) (K : Fr → World → Prop) : List Oper → Fr → World → Prop
  | [], f, A => ∃ A0, Ext A0 A ∧ A.tape = A0.tape ∧ K f A0
  | o :: l, f, A => OpJ P n ops o (WpO P n ops K l) f A
section
variable [Comp] {P : Program} {n : Nat} {ops : Array Oper} {K : Fr → World → Prop} {l : List Oper} {f : Fr} {A : World} {o : Oper}
theorem OpJ.mono {o : Oper} {next next' : Fr → World → Prop} (h : OpJ P n ops o next f A) (hn : ∀ f A, next f A → next' f A) : OpJ P n ops o next' f A := fun a ha => by
  rcases h a ha with ⟨h1, ⟨h2, h3⟩ | ⟨R, h4, h5⟩⟩ | ⟨h1, f', h2, h3⟩
  · refine Or.inl ⟨h1, Or.inl ⟨h2, fun A1 hE => ?_⟩⟩
    obtain ⟨x, v, A1', h4, h5, f', h6, h7⟩ := h3 A1 hE
    exact ⟨x, v, A1', h4, h5, f', h6, hn _ _ h7⟩
  · exact Or.inl ⟨h1, Or.inr ⟨R, h4, fun v A' hR => let ⟨f', h6, h7⟩ := h5 v A' hR; ⟨f', h6, hn _ _ h7⟩⟩⟩
  · exact Or.inr ⟨h1, f', h2, hn _ _ h3⟩
theorem OpJ.ext {o : Oper} {next : Fr → World → Prop} {A1 : World} (h : OpJ P n ops o next f A) (he : Ext A A1) (ht : A1.tape = A.tape) (hn : ∀ f B B1, next f B → Ext B B1 → B1.tape = B.tape → next f B1) : OpJ P n ops o next f A1 := fun a ha => by
  rcases h a ha with ⟨h1, ⟨h2, h3⟩ | ⟨R, h4, h5⟩⟩ | ⟨h1, f', h2, h3⟩
  · refine Or.inl ⟨h1, Or.inl ⟨h2, fun A2 hE => ?_⟩⟩
    obtain ⟨x, v, A1', h4, h5, f', h6, h7⟩ := h3 A2 (he.trans hE)
    exact ⟨x, v, A1', h4, h5, f', h6, hn _ _ _ h7 ⟨0, by simp [Go.Dw.J.norm], rfl, rfl⟩ ht⟩
  · exact Or.inl ⟨h1, Or.inr ⟨R, h4.ext he ht, h5⟩⟩
  · exact Or.inr ⟨h1, f', h2, hn _ _ _ h3 he ht⟩
theorem OpJ.run {o : Oper} {next : Fr → World → Prop} (h : OpJ P n ops o next f A) {J : Goroutine → World → Prop} (hJ : Closed P J) {b : Frame} (hb : b.kind ≠ .early) {i : Nat} {rest : List Nat} {k : List Item} {cs : List Frame} {a : Act} (ha : FEq n a f) (ho : ops[i]? = some o)
    (hk : ∀ a' f' A', FEq n a' f' → next f' A' → J (G (ato b a' (.inRegion ops rest :: k)) cs) A') : J (G (ato b a (.inRegion ops (i :: rest) :: k)) cs) A := by
  rcases h a ha with ⟨h1, ⟨h2, h3⟩ | ⟨R, h4, h5⟩⟩ | ⟨h1, f', h2, h3⟩
  · refine hJ.value hb ho h1 h2 fun A1 hE => ?_
    obtain ⟨x, v, A1', h4, h5, f', h6, h7⟩ := h3 A1 hE
    exact ⟨x, v, A1', h4, h5, hk _ _ _ h6 h7⟩
  · refine h4 J hJ b hb i rest k cs a o ho rfl h1 rfl fun v A' hR => ?_
    obtain ⟨f', h6, h7⟩ := h5 v A' hR
    exact hk _ _ _ h6 h7
  · exact hJ.move rfl (fun w => stepG_unwanted ho h1) (hk _ _ _ h2 h3)
theorem WpO.mono {K' : Fr → World → Prop} (hk : ∀ f A, K f A → K' f A) : ∀ {l : List Oper} {f : Fr} {A : World}, WpO P n ops K l f A → WpO P n ops K' l f A
  | [], f, A, ⟨A0, h1, h2, h3⟩ => ⟨A0, h1, h2, hk _ _ h3⟩
  | o :: l, f, A, h => OpJ.mono (o := o) h fun f A => WpO.mono hk
theorem WpO.ext : ∀ {l : List Oper} {f : Fr} {A A1 : World}, WpO P n ops K l f A → Ext A A1 → A1.tape = A.tape → WpO P n ops K l f A1
  | [], f, A, A1, ⟨A0, h1, h2, h3⟩, he, ht => ⟨A0, h1.trans he, ht.trans h2, h3⟩
  | o :: l, f, A, A1, h, he, ht => OpJ.ext (o := o) h he ht fun f B B1 hB hE hT => WpO.ext (l := l) hB hE hT
theorem wpo_nil (h : K f A) : WpO P n ops K [] f A := ⟨A, Ext.refl A, rfl, h⟩
theorem WpO.run {J : Goroutine → World → Prop} (hJ : Closed P J) {b : Frame} (hb : b.kind ≠ .early) {k : List Item} {cs : List Frame} (hk : ∀ a' f' A', FEq n a' f' → K f' A' → J (G (ato b a' k) cs) A') :
    ∀ (l : List Oper) (i : Nat) (f : Fr) (A : World) (a : Act), (∀ j o, l[j]? = some o → ops[i + j]? = some o) → FEq n a f → WpO P n ops K l f A → J (G (ato b a (.inRegion ops (List.range' i l.length) :: k)) cs) A
  | [], i, f, A, a, _, ha, ⟨A0, h1, h2, h3⟩ => hJ.ext _ _ _ h1 h2 (hJ.move rfl (fun w => stepG_region_end) (hk a f A0 ha h3))
  | o :: l, i, f, A, a, ho, ha, h => by
    show J (G (ato b a (.inRegion ops (i :: List.range' (i + 1) l.length) :: k)) cs) A
    refine OpJ.run (o := o) h hJ hb ha (by simpa using ho 0 o rfl) fun a' f' A' hf hx => WpO.run hJ hb hk l (i + 1) f' A' a' (fun j o' hj => ?_) hf hx
    rw [show i + 1 + j = i + (j + 1) by omega]
    exact ho (j + 1) o' hj
theorem wpf_region {id : Nat} {Q : Exit → Fr → World → Prop} (h : WpO P n l.toArray (Q .normal) l f A) : Wpf P n Q (.region id l.toArray false) f A := fun J hJ b hb k cs a ha hc => by
  refine hJ.move rfl (fun w => stepG_region) ?_
  rw [show List.range l.toArray.size = List.range' 0 l.length by rw [List.range_eq_range']; simp]
  exact WpO.run hJ hb (fun a' f' A' hf hK => hc .normal a' f' A' hf hK) l 0 f A a (fun j o hj => by simpa using hj) ha h
theorem wpf_seq_region {id : Nat} {Q : Exit → Fr → World → Prop} {y : Code} (h : WpO P n l.toArray (Wpf P n Q y) l f A) : Wpf P n Q (.seq (.region id l.toArray false) y) f A := wpf_seq (wpf_region h)
theorem wpf_seq_region_mid {id : Nat} {Q : Exit → Fr → World → Prop} {y : Code} (M : Fr → World → Prop) (h : WpO P n l.toArray M l f A) (hM : ∀ f A, M f A → Wpf P n Q y f A) : Wpf P n Q (.seq (.region id l.toArray false) y) f A := wpf_seq_region (WpO.mono hM h)
theorem WpO.app {l' : List Oper} : ∀ {l : List Oper} {f : Fr} {A : World}, WpO P n ops (WpO P n ops K l') l f A → WpO P n ops K (l ++ l') f A
  | [], f, A, ⟨A0, h1, h2, h3⟩ => WpO.ext h3 h1 h2
  | o :: l, f, A, h => OpJ.mono (o := o) h fun f A hx => WpO.app hx
end
end Go.Dw.J
end
section
namespace Go.Dw.J
open Go.Dw Go.Conc Go.RowKit
set_option linter.unusedVariables false
set_option linter.unusedSimpArgs false
section
variable {P : Program}
theorem qb {α β : Type} {s : Sem α} {k : α → Sem β} (h : Quiet P s) (hk : ∀ x, Quiet P (k x)) : Quiet P (s >>= k) := quiet_bind hk h
theorem qm {α β : Type} (g : α → β) {s : Sem α} (h : Quiet P s) : Quiet P (g <$> s) := quiet_bind (k := fun x => .pure (g x)) (fun _ => trivial) h
theorem qp {α : Type} (x : α) : Quiet P (pure x : Sem α) := trivial
theorem qh {α : Type} (h : Halt) : Quiet P (Sem.halt h : Sem α) := trivial
theorem q_stuck {α : Type} (s : String) : Quiet P (stuck s : Sem α) := trivial
theorem q_unsupported {α : Type} (u : Unsupported) : Quiet P (unsupported u : Sem α) := trivial
theorem q_goPanic {α : Type} (v : Value) : Quiet P (goPanic v : Sem α) := trivial
theorem q_program : Quiet P program := trivial
theorem q_choose (q : Question) : Quiet P (choose q) := fun _ => trivial
theorem q_load (a : Addr) : Quiet P (load a) := ⟨rfl, fun _ => trivial⟩
theorem q_store (a : Addr) (v : Value) : Quiet P (store a v) := ⟨rfl, trivial⟩
theorem q_typeInfo (t : TypeId) : Quiet P (typeInfo t) := by
  unfold typeInfo
  refine qb q_program fun p => ?_
  split <;> trivial
theorem q_underlying (t : TypeId) : Quiet P (underlying t) := by
  unfold underlying
  refine qb q_program fun p => ?_
  split <;> trivial
theorem q_zeroValue (t : TypeId) : Quiet P (zeroValue t) := by
  unfold zeroValue
  refine qb (q_typeInfo t) fun p => ?_
  split <;> trivial
theorem q_sizeOf (t : TypeId) : Quiet P (sizeOf t) := qb (q_typeInfo t) fun _ => trivial
theorem q_isAgg (t : TypeId) : Quiet P (isAgg t) := by
  unfold isAgg
  refine qb (q_underlying t) fun d => ?_
  split <;> trivial
theorem q_loadCellsFrom (a : Addr) : ∀ (n i : Nat) (acc : Array Value), Quiet P (loadCellsFrom a i n acc)
  | 0, _, _ => trivial
  | n + 1, i, acc => qb (q_load _) fun v => q_loadCellsFrom a n _ _
theorem q_loadCells (a : Addr) (n : Nat) : Quiet P (loadCells a n) := q_loadCellsFrom a n 0 _
theorem q_storeCells (a : Addr) : ∀ (vs : List Value) (i : Nat), Quiet P (storeCells a vs i)
  | [], _ => by unfold storeCells; trivial
  | v :: vs, i => by unfold storeCells; exact qb (q_store _ _) fun _ => q_storeCells a vs _
theorem q_loadVar (t : TypeId) (a : Addr) : Quiet P (loadVar t a) := by
  unfold loadVar
  refine qb (q_isAgg t) fun b => ?_
  split
  · exact qb (q_sizeOf t) fun n => qb (q_loadCells a n) fun _ => trivial
  · exact q_load a
theorem q_storeVar (t : TypeId) (a : Addr) (v : Value) : Quiet P (storeVar t a v) := by
  unfold storeVar
  refine qb (q_sizeOf t) fun n => ?_
  split
  · trivial
  · exact q_storeCells a _ _
theorem q_newRow (e : TypeId) (cs : Array Value) : Quiet P (newRow e cs) := qb (s := newObj (.cells cs e)) ⟨trivial, fun _ => trivial⟩ fun _ => trivial
theorem q_newVar (t : TypeId) (v : Value) : Quiet P (newVar t v) := q_newRow _ _
theorem q_elemOf (t : TypeId) : Quiet P (elemOf t) := by
  unfold elemOf
  refine qb (q_underlying t) fun d => ?_
  split <;> trivial
theorem q_runtimePanic {α : Type} (e : RuntimeError) : Quiet P (runtimePanic e : Sem α) := by
  unfold runtimePanic
  refine qb q_program fun p => ?_
  cases e <;> first
    | exact q_goPanic _
    | exact qb (q_elemOf _) fun _ => qb (q_newVar _ _) fun _ => q_goPanic _
theorem q_boundsPanic {α : Type} (k : IntKind) (x y : Int) (c : BoundsCode) : Quiet P (boundsPanic k x y c : Sem α) := by
  unfold boundsPanic
  repeat' (first | with_reducible exact qp _ | with_reducible exact q_stuck _ | with_reducible exact q_unsupported _ | with_reducible exact q_goPanic _ | with_reducible exact qh _ | with_reducible exact q_program | with_reducible exact q_choose _ | with_reducible exact q_load _ | with_reducible exact q_store _ _ | with_reducible exact q_typeInfo _ | with_reducible exact q_underlying _ | with_reducible exact q_zeroValue _ | with_reducible exact q_sizeOf _ | with_reducible exact q_isAgg _ | with_reducible exact q_loadCells _ _ | with_reducible exact q_storeCells _ _ _ | with_reducible exact q_loadVar _ _ | with_reducible exact q_storeVar _ _ _ | with_reducible exact q_newRow _ _ | with_reducible exact q_newVar _ _ | with_reducible exact q_elemOf _ | with_reducible exact q_runtimePanic _ | with_reducible refine qb ?_ (fun _ => ?_) | with_reducible refine qm _ ?_ | split | dsimp only)
theorem q_asIntOf (v : Value) : Quiet P (asIntOf v) := by unfold asIntOf; split <;> trivial
theorem q_asInt (v : Value) : Quiet P (asInt v) := qb (q_asIntOf v) fun _ => trivial
theorem q_asBool (v : Value) : Quiet P (asBool v) := by unfold asBool; split <;> trivial
theorem q_asAddr (v : Value) : Quiet P (asAddr v) := by
  unfold asAddr
  split <;> first | trivial | exact q_runtimePanic _
theorem q_sureAddr (v : Value) : Quiet P (Instr.sureAddr v) := by unfold Instr.sureAddr; split <;> trivial
theorem q_part (t : TypeId) (cs : Array Value) (o : Nat) : Quiet P (part t cs o) := by
  unfold part
  refine qb (q_isAgg t) fun b => ?_
  split
  · exact qb (q_sizeOf t) fun _ => trivial
  · split <;> trivial
theorem q_alloc (t : TypeId) : Quiet P (Instr.alloc t true (.tuple #[])) := by
  unfold Instr.alloc
  refine qb (q_zeroValue t) fun z => ?_
  exact qb (q_newVar t z) fun _ => trivial
theorem q_box (t : TypeId) (v : Value) : Quiet P (Instr.box t v) := qb (q_newVar t v) fun _ => trivial
theorem q_loadAt (t : TypeId) (v : Value) : Quiet P (Instr.loadAt t v) := qb (q_sureAddr v) fun a => q_loadVar t a
theorem q_storeAt (t : TypeId) (v x : Value) : Quiet P (Instr.storeAt t v x) := qb (q_sureAddr v) fun a => q_storeVar t a x
theorem q_listMapM {α β : Type} {g : α → Sem β} (hg : ∀ x, Quiet P (g x)) : ∀ l : List α, Quiet P (l.mapM g)
  | [] => by rw [List.mapM_nil]; trivial
  | x :: l => by rw [List.mapM_cons]; exact qb (hg x) fun _ => qb (q_listMapM hg l) fun _ => trivial
theorem q_mapM {α β : Type} {g : α → Sem β} (hg : ∀ x, Quiet P (g x)) (l : Array α) : Quiet P (l.mapM g) := by
  rw [Array.mapM_eq_mapM_toList]
  exact qb (q_listMapM hg _) fun _ => trivial
theorem q_build (t : TypeId) (ps : Array (Nat × Value)) : Quiet P (Instr.build t ps) := by
  unfold Instr.build
  repeat' (first | with_reducible exact qp _ | with_reducible exact q_stuck _ | with_reducible exact q_unsupported _ | with_reducible exact q_goPanic _ | with_reducible exact qh _ | with_reducible exact q_program | with_reducible exact q_choose _ | with_reducible exact q_load _ | with_reducible exact q_store _ _ | with_reducible exact q_typeInfo _ | with_reducible exact q_underlying _ | with_reducible exact q_zeroValue _ | with_reducible exact q_sizeOf _ | with_reducible exact q_isAgg _ | with_reducible exact q_loadCells _ _ | with_reducible exact q_storeCells _ _ _ | with_reducible exact q_loadVar _ _ | with_reducible exact q_storeVar _ _ _ | with_reducible exact q_newRow _ _ | with_reducible exact q_newVar _ _ | with_reducible exact q_elemOf _ | with_reducible exact q_runtimePanic _ | with_reducible exact q_asIntOf _ | with_reducible exact q_asInt _ | with_reducible exact q_asBool _ | with_reducible exact q_asAddr _ | with_reducible exact q_sureAddr _ | with_reducible exact q_part _ _ _ | with_reducible exact q_boundsPanic _ _ _ _ | with_reducible exact q_mapM (fun _ => qb (q_sizeOf _) fun _ => qp _) _ | with_reducible refine qb ?_ (fun _ => ?_) | with_reducible refine qm _ ?_ | split | dsimp only)
theorem q_buildSlice (t : TypeId) (len : Nat) (ps : Array (Nat × Value)) : Quiet P (Instr.buildSlice t len ps) := by
  unfold Instr.buildSlice
  repeat' (first | with_reducible exact qp _ | with_reducible exact q_stuck _ | with_reducible exact q_unsupported _ | with_reducible exact q_goPanic _ | with_reducible exact qh _ | with_reducible exact q_program | with_reducible exact q_choose _ | with_reducible exact q_load _ | with_reducible exact q_store _ _ | with_reducible exact q_typeInfo _ | with_reducible exact q_underlying _ | with_reducible exact q_zeroValue _ | with_reducible exact q_sizeOf _ | with_reducible exact q_isAgg _ | with_reducible exact q_loadCells _ _ | with_reducible exact q_storeCells _ _ _ | with_reducible exact q_loadVar _ _ | with_reducible exact q_storeVar _ _ _ | with_reducible exact q_newRow _ _ | with_reducible exact q_newVar _ _ | with_reducible exact q_elemOf _ | with_reducible exact q_runtimePanic _ | with_reducible exact q_asIntOf _ | with_reducible exact q_asInt _ | with_reducible exact q_asBool _ | with_reducible exact q_asAddr _ | with_reducible exact q_sureAddr _ | with_reducible exact q_part _ _ _ | with_reducible exact q_boundsPanic _ _ _ _ | with_reducible refine qb ?_ (fun _ => ?_) | with_reducible refine qm _ ?_ | split | dsimp only)
theorem q_askRoom (n : Nat) : Quiet P (askRoom n) := by
  unfold askRoom
  split
  · exact Or.inl ⟨rfl, trivial⟩
  · trivial
theorem q_makeSlice (t : TypeId) (l c : Value) : Quiet P (Instr.makeSlice t l c) := by
  unfold Instr.makeSlice
  repeat' (first | with_reducible exact qp _ | with_reducible exact q_stuck _ | with_reducible exact q_unsupported _ | with_reducible exact q_goPanic _ | with_reducible exact qh _ | with_reducible exact q_program | with_reducible exact q_choose _ | with_reducible exact q_load _ | with_reducible exact q_store _ _ | with_reducible exact q_typeInfo _ | with_reducible exact q_underlying _ | with_reducible exact q_zeroValue _ | with_reducible exact q_sizeOf _ | with_reducible exact q_isAgg _ | with_reducible exact q_loadCells _ _ | with_reducible exact q_storeCells _ _ _ | with_reducible exact q_loadVar _ _ | with_reducible exact q_storeVar _ _ _ | with_reducible exact q_newRow _ _ | with_reducible exact q_newVar _ _ | with_reducible exact q_elemOf _ | with_reducible exact q_runtimePanic _ | with_reducible exact q_asIntOf _ | with_reducible exact q_asInt _ | with_reducible exact q_asBool _ | with_reducible exact q_asAddr _ | with_reducible exact q_sureAddr _ | with_reducible exact q_part _ _ _ | with_reducible exact q_boundsPanic _ _ _ _ | with_reducible exact q_askRoom _ | with_reducible refine qb ?_ (fun _ => ?_) | with_reducible refine qm _ ?_ | split | dsimp only)
theorem q_indexAt (t : TypeId) (x i : Value) : Quiet P (Instr.indexAt t x i) := by
  unfold Instr.indexAt
  repeat' (first | with_reducible exact qp _ | with_reducible exact q_stuck _ | with_reducible exact q_unsupported _ | with_reducible exact q_goPanic _ | with_reducible exact qh _ | with_reducible exact q_program | with_reducible exact q_choose _ | with_reducible exact q_load _ | with_reducible exact q_store _ _ | with_reducible exact q_typeInfo _ | with_reducible exact q_underlying _ | with_reducible exact q_zeroValue _ | with_reducible exact q_sizeOf _ | with_reducible exact q_isAgg _ | with_reducible exact q_loadCells _ _ | with_reducible exact q_storeCells _ _ _ | with_reducible exact q_loadVar _ _ | with_reducible exact q_storeVar _ _ _ | with_reducible exact q_newRow _ _ | with_reducible exact q_newVar _ _ | with_reducible exact q_elemOf _ | with_reducible exact q_runtimePanic _ | with_reducible exact q_asIntOf _ | with_reducible exact q_asInt _ | with_reducible exact q_asBool _ | with_reducible exact q_asAddr _ | with_reducible exact q_sureAddr _ | with_reducible exact q_part _ _ _ | with_reducible exact q_boundsPanic _ _ _ _ | with_reducible exact q_askRoom _ | with_reducible refine qb ?_ (fun _ => ?_) | with_reducible refine qm _ ?_ | split | dsimp only)
theorem q_index (t : TypeId) (x i : Value) : Quiet P (Instr.index t x i) := by
  unfold Instr.index
  repeat' (first | with_reducible exact qp _ | with_reducible exact q_stuck _ | with_reducible exact q_unsupported _ | with_reducible exact q_goPanic _ | with_reducible exact qh _ | with_reducible exact q_program | with_reducible exact q_choose _ | with_reducible exact q_load _ | with_reducible exact q_store _ _ | with_reducible exact q_typeInfo _ | with_reducible exact q_underlying _ | with_reducible exact q_zeroValue _ | with_reducible exact q_sizeOf _ | with_reducible exact q_isAgg _ | with_reducible exact q_loadCells _ _ | with_reducible exact q_storeCells _ _ _ | with_reducible exact q_loadVar _ _ | with_reducible exact q_storeVar _ _ _ | with_reducible exact q_newRow _ _ | with_reducible exact q_newVar _ _ | with_reducible exact q_elemOf _ | with_reducible exact q_runtimePanic _ | with_reducible exact q_asIntOf _ | with_reducible exact q_asInt _ | with_reducible exact q_asBool _ | with_reducible exact q_asAddr _ | with_reducible exact q_sureAddr _ | with_reducible exact q_part _ _ _ | with_reducible exact q_boundsPanic _ _ _ _ | with_reducible exact q_askRoom _ | with_reducible refine qb ?_ (fun _ => ?_) | with_reducible refine qm _ ?_ | split | dsimp only)
theorem q_arrayAt (t : TypeId) (x : Value) : Quiet P (Instr.arrayAt t x) := by
  unfold Instr.arrayAt
  repeat' (first | with_reducible exact qp _ | with_reducible exact q_stuck _ | with_reducible exact q_unsupported _ | with_reducible exact q_goPanic _ | with_reducible exact qh _ | with_reducible exact q_program | with_reducible exact q_choose _ | with_reducible exact q_load _ | with_reducible exact q_store _ _ | with_reducible exact q_typeInfo _ | with_reducible exact q_underlying _ | with_reducible exact q_zeroValue _ | with_reducible exact q_sizeOf _ | with_reducible exact q_isAgg _ | with_reducible exact q_loadCells _ _ | with_reducible exact q_storeCells _ _ _ | with_reducible exact q_loadVar _ _ | with_reducible exact q_storeVar _ _ _ | with_reducible exact q_newRow _ _ | with_reducible exact q_newVar _ _ | with_reducible exact q_elemOf _ | with_reducible exact q_runtimePanic _ | with_reducible exact q_asIntOf _ | with_reducible exact q_asInt _ | with_reducible exact q_asBool _ | with_reducible exact q_asAddr _ | with_reducible exact q_sureAddr _ | with_reducible exact q_part _ _ _ | with_reducible exact q_boundsPanic _ _ _ _ | with_reducible exact q_askRoom _ | with_reducible refine qb ?_ (fun _ => ?_) | with_reducible refine qm _ ?_ | split | dsimp only)
theorem q_sliceBound (v : Value) (n : Nat) (c : BoundsCode) : Quiet P (Instr.sliceBound v n c) := by
  unfold Instr.sliceBound
  repeat' (first | with_reducible exact qp _ | with_reducible exact q_stuck _ | with_reducible exact q_unsupported _ | with_reducible exact q_goPanic _ | with_reducible exact qh _ | with_reducible exact q_program | with_reducible exact q_choose _ | with_reducible exact q_load _ | with_reducible exact q_store _ _ | with_reducible exact q_typeInfo _ | with_reducible exact q_underlying _ | with_reducible exact q_zeroValue _ | with_reducible exact q_sizeOf _ | with_reducible exact q_isAgg _ | with_reducible exact q_loadCells _ _ | with_reducible exact q_storeCells _ _ _ | with_reducible exact q_loadVar _ _ | with_reducible exact q_storeVar _ _ _ | with_reducible exact q_newRow _ _ | with_reducible exact q_newVar _ _ | with_reducible exact q_elemOf _ | with_reducible exact q_runtimePanic _ | with_reducible exact q_asIntOf _ | with_reducible exact q_asInt _ | with_reducible exact q_asBool _ | with_reducible exact q_asAddr _ | with_reducible exact q_sureAddr _ | with_reducible exact q_part _ _ _ | with_reducible exact q_boundsPanic _ _ _ _ | with_reducible exact q_askRoom _ | with_reducible refine qb ?_ (fun _ => ?_) | with_reducible refine qm _ ?_ | split | dsimp only)
theorem q_sliceBounds (b : Bool) (len cap : Nat) (lo hi mx : Option Value) : Quiet P (Instr.sliceBounds b len cap lo hi mx) := by
  unfold Instr.sliceBounds
  repeat' (first | with_reducible exact qp _ | with_reducible exact q_stuck _ | with_reducible exact q_unsupported _ | with_reducible exact q_goPanic _ | with_reducible exact qh _ | with_reducible exact q_program | with_reducible exact q_choose _ | with_reducible exact q_load _ | with_reducible exact q_store _ _ | with_reducible exact q_typeInfo _ | with_reducible exact q_underlying _ | with_reducible exact q_zeroValue _ | with_reducible exact q_sizeOf _ | with_reducible exact q_isAgg _ | with_reducible exact q_loadCells _ _ | with_reducible exact q_storeCells _ _ _ | with_reducible exact q_loadVar _ _ | with_reducible exact q_storeVar _ _ _ | with_reducible exact q_newRow _ _ | with_reducible exact q_newVar _ _ | with_reducible exact q_elemOf _ | with_reducible exact q_runtimePanic _ | with_reducible exact q_asIntOf _ | with_reducible exact q_asInt _ | with_reducible exact q_asBool _ | with_reducible exact q_asAddr _ | with_reducible exact q_sureAddr _ | with_reducible exact q_part _ _ _ | with_reducible exact q_boundsPanic _ _ _ _ | with_reducible exact q_askRoom _ | with_reducible exact q_sliceBound _ _ _ | with_reducible refine qb ?_ (fun _ => ?_) | with_reducible refine qm _ ?_ | split | dsimp only)
theorem q_slice (t : TypeId) (x : Value) (lo hi mx : Option Value) : Quiet P (Instr.slice t x lo hi mx) := by
  unfold Instr.slice
  repeat' (first | with_reducible exact qp _ | with_reducible exact q_stuck _ | with_reducible exact q_unsupported _ | with_reducible exact q_goPanic _ | with_reducible exact qh _ | with_reducible exact q_program | with_reducible exact q_choose _ | with_reducible exact q_load _ | with_reducible exact q_store _ _ | with_reducible exact q_typeInfo _ | with_reducible exact q_underlying _ | with_reducible exact q_zeroValue _ | with_reducible exact q_sizeOf _ | with_reducible exact q_isAgg _ | with_reducible exact q_loadCells _ _ | with_reducible exact q_storeCells _ _ _ | with_reducible exact q_loadVar _ _ | with_reducible exact q_storeVar _ _ _ | with_reducible exact q_newRow _ _ | with_reducible exact q_newVar _ _ | with_reducible exact q_elemOf _ | with_reducible exact q_runtimePanic _ | with_reducible exact q_asIntOf _ | with_reducible exact q_asInt _ | with_reducible exact q_asBool _ | with_reducible exact q_asAddr _ | with_reducible exact q_sureAddr _ | with_reducible exact q_part _ _ _ | with_reducible exact q_boundsPanic _ _ _ _ | with_reducible exact q_askRoom _ | with_reducible exact q_sliceBound _ _ _ | with_reducible exact q_sliceBounds _ _ _ _ _ _ | with_reducible refine qb ?_ (fun _ => ?_) | with_reducible refine qm _ ?_ | split | dsimp only)
theorem q_sliceAt (t : TypeId) (x : Value) (lo hi mx : Option Value) : Quiet P (Instr.sliceAt t x lo hi mx) := by
  unfold Instr.sliceAt
  repeat' (first | with_reducible exact qp _ | with_reducible exact q_stuck _ | with_reducible exact q_unsupported _ | with_reducible exact q_goPanic _ | with_reducible exact qh _ | with_reducible exact q_program | with_reducible exact q_choose _ | with_reducible exact q_load _ | with_reducible exact q_store _ _ | with_reducible exact q_typeInfo _ | with_reducible exact q_underlying _ | with_reducible exact q_zeroValue _ | with_reducible exact q_sizeOf _ | with_reducible exact q_isAgg _ | with_reducible exact q_loadCells _ _ | with_reducible exact q_storeCells _ _ _ | with_reducible exact q_loadVar _ _ | with_reducible exact q_storeVar _ _ _ | with_reducible exact q_newRow _ _ | with_reducible exact q_newVar _ _ | with_reducible exact q_elemOf _ | with_reducible exact q_runtimePanic _ | with_reducible exact q_asIntOf _ | with_reducible exact q_asInt _ | with_reducible exact q_asBool _ | with_reducible exact q_asAddr _ | with_reducible exact q_sureAddr _ | with_reducible exact q_part _ _ _ | with_reducible exact q_boundsPanic _ _ _ _ | with_reducible exact q_askRoom _ | with_reducible exact q_sliceBound _ _ _ | with_reducible exact q_sliceBounds _ _ _ _ _ _ | with_reducible exact q_slice _ _ _ _ _ | with_reducible refine qb ?_ (fun _ => ?_) | with_reducible refine qm _ ?_ | split | dsimp only)
theorem q_extract (x : Value) (i : Nat) : Quiet P (Instr.extract x i) := by
  unfold Instr.extract
  split
  · split <;> trivial
  · trivial
theorem q_unary (op : UnOp) (x : Value) : Quiet P (Op.unary op x) := by
  unfold Op.unary
  split <;> trivial
end
end Go.Dw.J
end
section
namespace Go.Dw
structure Lab where
  s : Int
  v : Int
  deriving DecidableEq
structure Rt where
  th : Int
  ve : Int
  rd : Bool
  wr : Bool
  wk : Bool
  deriving DecidableEq
def Rt.zero : Rt := ⟨0, 0, false, false, false⟩
def Rt.cells (r : Rt) : List Value := [.int .i64 r.th, .int .i64 r.ve, .bool r.rd, .bool r.wr, .bool r.wk]
def Lab.cells (l : Lab) : List Value := [.int .i64 l.s, .int .i64 l.v]
def inR (n lo hi : Int) : Bool := decide (lo ≤ n) && decide (n ≤ hi)
def labelOk (l : Lab) : Bool := inR l.s 0 3 && inR l.v 0 3
def l1In (a b : Int) : Bool := decide (a % 2 ≤ b % 2) && decide (a / 2 ≤ b / 2)
def flow (a b : Lab) : Bool := l1In a.s b.s && l1In b.v a.v
def labelFlow (a b : Lab) : Bool := labelOk a && labelOk b && flow a b
theorem labelOk_iff (l : Lab) : labelOk l = true ↔ (0 ≤ l.s ∧ l.s ≤ 3) ∧ 0 ≤ l.v ∧ l.v ≤ 3 := by simp [labelOk, inR]
theorem within_eq (a b : Int) (ha : 0 ≤ a) (ha3 : a ≤ 3) (hb : 0 ≤ b) (hb3 : b ≤ 3) : decide (bits .andNot .u64 a b = 0) = l1In a b := by
  have h1 : a = 0 ∨ a = 1 ∨ a = 2 ∨ a = 3 := by omega
  have h2 : b = 0 ∨ b = 1 ∨ b = 2 ∨ b = 3 := by omega
  rcases h1 with rfl | rfl | rfl | rfl <;> rcases h2 with rfl | rfl | rfl | rfl <;> decide
theorem labelFlow_no {a b : Lab} (h : ((!labelOk a) || (!labelOk b)) = true) : labelFlow a b = false := by
  unfold labelFlow
  cases ha : labelOk a <;> cases hb : labelOk b <;> simp_all
theorem labelFlow_yes {a b : Lab} (ha : labelOk a = true) (hb : labelOk b = true) : (decide (bits .andNot .u64 a.s b.s = 0) && decide (bits .andNot .u64 b.v a.v = 0)) = labelFlow a b := by
  obtain ⟨⟨h1, h2⟩, h3, h4⟩ := (labelOk_iff a).1 ha
  obtain ⟨⟨h5, h6⟩, h7, h8⟩ := (labelOk_iff b).1 hb
  rw [within_eq _ _ h1 h2 h5 h6, within_eq _ _ h7 h8 h3 h4, labelFlow, ha, hb]
  rfl
def rightOk (r : Rt) : Bool := decide (r = Rt.zero) || (inR r.th 1 8 && inR r.ve 0 5 && !(r.wk && r.wr))
theorem rightOk_z {r : Rt} (h : decide (r.th = 0) = true) : decide (r = Rt.zero) = rightOk r := by
  have h' : r.th = 0 := of_decide_eq_true h
  unfold rightOk inR
  simp [h']
theorem rightOk_n {r : Rt} (h : decide (r.th = 0) = false) : (inR r.th 1 8 && inR r.ve 0 5 && !(r.wk && r.wr)) = rightOk r := by
  have h' : ¬ r.th = 0 := of_decide_eq_false h
  have h2 : r ≠ Rt.zero := fun e => h' (by rw [e]; rfl)
  unfold rightOk
  simp [h2]
theorem take_eq_succ {α : Type} {l m : List α} {k : Nat} {x y : α} (h : l.take k = m.take k) (hx : l[k]? = some x) (hy : m[k]? = some y) (e : x = y) : l.take (k + 1) = m.take (k + 1) := by
  rw [List.take_add_one, List.take_add_one, h, hx, hy, e]
theorem eq_of_take {α : Type} {l m : List α} {k : Nat} (h : l.take k = m.take k) (hl : l.length ≤ k) (hm : m.length ≤ k) : l = m := by
  rwa [List.take_of_length_le hl, List.take_of_length_le hm] at h
theorem ne_of_at {α : Type} {l m : List α} {k : Nat} {x y : α} (hx : l[k]? = some x) (hy : m[k]? = some y) (e : ¬ x = y) : ¬ l = m := fun h => e (by
  rw [h, hy] at hx
  exact (Option.some.inj hx).symm)
structure Th where
  kind : Int
  lab : Lab
  ve : Int
  num : Int
  slots : List Rt
  queue : List Int
  to : Int
  deriving DecidableEq
structure MTh where
  t : Th
  sa : Option Addr
  sc : Nat
  qa : Option Addr
  qc : Nat
structure Cl where
  kind : Int
  run : Int
  a : Int
  b : Int
  n : Int
  deriving DecidableEq
def Cl.cells (c : Cl) : List Value := [.int .i64 c.kind, .int .i64 c.run, .int .i64 c.a, .int .i64 c.b, .int .i64 c.n]
def icell (n : Int) : List Value := [.int .i64 n]
def MTh.cells (m : MTh) : List Value :=
  [.int .i64 m.t.kind, .int .i64 m.t.lab.s, .int .i64 m.t.lab.v, .int .i64 m.t.ve, .int .i64 m.t.num, .slice m.sa m.t.slots.length m.sc, .slice m.qa m.t.queue.length m.qc, .int .i64 m.t.to]
def versOk (t : Th) : Bool := if t.kind = 1 ∨ t.kind = 2 ∨ t.kind = 4 then inR t.ve 0 5 else decide (t.ve = 0)
def numOk (t : Th) : Bool := if t.kind = 1 ∨ t.kind = 5 then inR t.num 0 99 else if t.kind = 3 then inR t.num (-4) 99 else decide (t.num = 0)
def slotsOk (t : Th) : Bool := if t.kind = 2 ∨ t.kind = 3 then decide (t.slots.length = 4) && t.slots.all rightOk else decide (t.slots.length = 0)
def numQ (n : Int) : Bool := inR n 0 99
def queueOk (t : Th) : Bool := if t.kind = 4 then decide (t.queue.length ≤ 3) && t.queue.all numQ else decide (t.queue.length = 0)
def targetOk (t : Th) : Bool := if t.kind = 5 then inR t.to 1 8 else decide (t.to = 0)
def thingOk (t : Th) : Bool := inR t.kind 1 5 && labelOk t.lab && versOk t && numOk t && slotsOk t && queueOk t && targetOk t
theorem take_all_succ {α : Type} {p : α → Bool} {l : List α} {k : Nat} {x : α} (h : (l.take k).all p = true) (hx : l[k]? = some x) (hp : p x = true) : (l.take (k + 1)).all p = true := by
  rw [List.take_add_one, List.all_append, h, hx]
  simp [hp]
theorem all_false_of {α : Type} {p : α → Bool} {l : List α} {k : Nat} {x : α} (hx : l[k]? = some x) (hp : p x = false) : l.all p = false := by
  cases h : l.all p with
  | false => rfl
  | true => rw [List.all_eq_true.1 h x (List.mem_of_getElem? hx)] at hp; cases hp
theorem all_of_take {α : Type} {p : α → Bool} {l : List α} {k : Nat} (h : (l.take k).all p = true) (hk : l.length ≤ k) : l.all p = true := by
  rwa [List.take_of_length_le hk] at h
theorem slotsOk_n {t : Th} (h : (!decide (t.kind = 2) && !decide (t.kind = 3)) = true) : slotsOk t = decide ((t.slots.length : Int) = 0) := by
  have h' : ¬ (t.kind = 2 ∨ t.kind = 3) := by simp at h; omega
  unfold slotsOk
  rw [if_neg h', decide_eq_decide]
  omega
theorem slotsOk_y {t : Th} (h : (!decide (t.kind = 2) && !decide (t.kind = 3)) = false) : slotsOk t = (decide ((t.slots.length : Int) = 4) && t.slots.all rightOk) := by
  have h' : t.kind = 2 ∨ t.kind = 3 := by simp at h; omega
  unfold slotsOk
  rw [if_pos h']
  congr 1
  rw [decide_eq_decide]
  omega
end Go.Dw
end
section
namespace Go.Dw
open Go.RowKit
def befores (ops : List Oper) : List (List Nat) :=
  (ops.foldl (init := []) fun acc o =>
    acc ++ [o.after.toList.foldl (init := 0) fun s e => if Region.binds .any e then Nat.lor s (Nat.lor (Nat.shiftLeft 1 e.on) (acc.getD e.on 0)) else s]).map fun k => (List.range ops.length).filter (Nat.testBit k)
def looks (ops : List Oper) (o : Oper) : List Nat :=
  (o.op.operands.toList.filterMap fun | .tmp t => some t | _ => none) ++
  (match o.guard with
   | some (g, _) => ((ops[g]?).bind (·.dst)).toList
   | none => [])
def notSel (o : Oper) : Bool := match o.op with | .select .. => false | _ => true
def drawOne (n m : Nat) (ops : List Oper) (bs : List (List Nat)) (i : Nat) (o : Oper) : Bool :=
  o.after.toList.all (fun e => !Region.binds .any e || decide (e.on < i)) &&
  (bs.getD i []).all (fun j => o.after.toList.any fun e => Region.binds .any e && (e.on == j || (bs.getD e.on []).contains j)) &&
  (if i < m then
    notSel o && (match o.dst with | some d => decide (d < n) | none => false) &&
    (looks ops o).all fun t => (List.range m).all fun j => (match ops[j]? with | some oj => oj.dst != some t | none => true) || (bs.getD i []).contains j
   else (List.range i).all fun j => (bs.getD i []).contains j)
def tailOne (m : Nat) (bs : List (List Nat)) (i : Nat) (o : Oper) : Bool :=
  o.after.toList.all (fun e => !Region.binds .any e || decide (e.on < i)) &&
  (bs.getD i []).all (fun j => o.after.toList.any fun e => Region.binds .any e && (e.on == j || (bs.getD e.on []).contains j)) &&
  (decide (i < m) || (List.range i).all fun j => (bs.getD i []).contains j)
theorem tailOne_of {n m : Nat} {ops : List Oper} {bs : List (List Nat)} {i : Nat} {o : Oper} (h : drawOne n m ops bs i o = true) : tailOne m bs i o = true := by
  unfold drawOne at h
  unfold tailOne
  simp only [Bool.and_eq_true] at h ⊢
  refine ⟨h.1, ?_⟩
  rcases Nat.lt_or_ge i m with h' | h'
  · simp [h']
  · have := h.2
    rw [if_neg (by omega)] at this
    rw [this, Bool.or_true]
def drawOkI (m : Nat) (ops : List Oper) (bs : List (List Nat)) : Bool :=
  decide (m ≤ ops.length) && (List.range ops.length).all fun i => match ops[i]? with | some o => tailOne m bs i o | none => true
def drawOk (n m : Nat) (ops : List Oper) (bs : List (List Nat)) : Bool :=
  decide (m ≤ ops.length) &&
  (List.range m).all (fun i => (List.range m).all fun j => i == j || (match ops[i]?, ops[j]? with | some oi, some oj => oi.dst != oj.dst | _, _ => true)) &&
  (List.range ops.length).all fun i => match ops[i]? with | some o => drawOne n m ops bs i o | none => true
def ups (f : Fr) : List (Nat × Value) → Fr
  | [] => f
  | (d, v) :: r => ups (up f d v) r
def YlL (P : Program) (n : Nat) (ops : Array Oper) (Inv : World → Prop) (F : Fr) : List Oper → List (Nat × Value) → Prop
  | [], [] => True
  | o :: l, (d, v) :: r => o.dst = some d ∧ (∀ w, Inv w → WpO P n ops (fun f' w' => f' = up F d v ∧ Inv w') [o] F w) ∧ YlL P n ops Inv F l r
  | _, _ => False
theorem yll_nil {P : Program} {n : Nat} {ops : Array Oper} {Inv : World → Prop} {F : Fr} : YlL P n ops Inv F [] [] := trivial
theorem yll_cons {P : Program} {n : Nat} {ops : Array Oper} {Inv : World → Prop} {F : Fr} {o : Oper} {l : List Oper} {d : Nat} {v : Value} {r : List (Nat × Value)} (hd : o.dst = some d)
    (h : ∀ w, Inv w → WpO P n ops (fun f' w' => f' = up F d v ∧ Inv w') [o] F w) (t : YlL P n ops Inv F l r) : YlL P n ops Inv F (o :: l) ((d, v) :: r) := ⟨hd, h, t⟩
theorem execOp_congr {ρ ρ' : Operand → Value} {o : Oper} (hs : notSel o = true) (h : ∀ x ∈ o.op.operands, ρ x = ρ' x) : execOp ρ o = execOp ρ' o := by
  obtain ⟨dst, op, ty, pos, aft, gd⟩ := o
  have hcall : ∀ c : Call, (∀ x ∈ c.operands, ρ x = ρ' x) → resolve ρ c ty = resolve ρ' c ty := by
    intro c hc
    have hargs : c.args.map ρ = c.args.map ρ' := Array.map_congr_left fun x hx => hc x (by simp [Call.operands, hx])
    unfold resolve
    rw [hargs]
    cases hcal : c.callee with
    | value g => simp only; rw [hc g (by simp [Call.operands, hcal])]
    | invoke r nm => simp only; rw [hc r (by simp [Call.operands, hcal])]
    | builtin b => rfl
  cases op with
  | select cs b => cases hs
  | call c => simp only [execOp]; rw [hcall c (by simpa [Op.operands] using h)]
  | go c => simp only [execOp]; rw [hcall c (by simpa [Op.operands] using h)]
  | defer c => simp only [execOp]; rw [hcall c (by simpa [Op.operands] using h)]
  | build t ps =>
    simp only [execOp]
    have : (ps.map fun (i, x) => (i, ρ x)) = (ps.map fun (i, x) => (i, ρ' x)) := Array.map_congr_left fun p hp => by
      have := h p.2 (by simp only [Op.operands]; simp; exact ⟨p.1, hp⟩)
      simp [this]
    rw [this]
  | buildSlice t k ps =>
    simp only [execOp]
    have : (ps.map fun (i, x) => (i, ρ x)) = (ps.map fun (i, x) => (i, ρ' x)) := Array.map_congr_left fun p hp => by
      have := h p.2 (by simp only [Op.operands]; simp; exact ⟨p.1, hp⟩)
      simp [this]
    rw [this]
  | makeFunc fn a b =>
    simp only [execOp]
    rw [Array.map_congr_left (f := ρ) (g := ρ') (xs := a) fun x hx => h x (by simp [Op.operands, hx]), Array.map_congr_left (f := ρ) (g := ρ') (xs := b) fun x hx => h x (by simp [Op.operands, hx])]
  | makeMap t r =>
    simp only [execOp]
    cases r with
    | none => rfl
    | some x => simp only [Option.map_some]; rw [h x (by simp [Op.operands])]
  | slice t x lo hi mx =>
    simp only [execOp]
    have hx := h x (by simp [Op.operands])
    have hlo : lo.map ρ = lo.map ρ' := by cases lo with | none => rfl | some y => simp only [Option.map_some]; rw [h y (by simp [Op.operands])]
    have hhi : hi.map ρ = hi.map ρ' := by cases hi with | none => rfl | some y => simp only [Option.map_some]; rw [h y (by simp [Op.operands])]
    have hmx : mx.map ρ = mx.map ρ' := by cases mx with | none => rfl | some y => simp only [Option.map_some]; rw [h y (by simp [Op.operands])]
    rw [hx, hlo, hhi, hmx]
  | binOp bo t x y yt => simp only [execOp]; rw [h x (by simp [Op.operands]), h y (by simp [Op.operands])]
  | pick c a b => simp only [execOp]; rw [h c (by simp [Op.operands]), h a (by simp [Op.operands]), h b (by simp [Op.operands])]
  | nilCheck x => simp only [execOp]; rw [h x (by simp [Op.operands])]
  | alloc t => rfl
  | ready g => rfl
  | waits g => rfl
  | store t x y => simp only [execOp]; rw [h x (by simp [Op.operands]), h y (by simp [Op.operands])]
  | makeSlice t x y => simp only [execOp]; rw [h x (by simp [Op.operands]), h y (by simp [Op.operands])]
  | indexAddr t x y => simp only [execOp]; rw [h x (by simp [Op.operands]), h y (by simp [Op.operands])]
  | index t x y => simp only [execOp]; rw [h x (by simp [Op.operands]), h y (by simp [Op.operands])]
  | lookup t x y ok => simp only [execOp]; rw [h x (by simp [Op.operands]), h y (by simp [Op.operands])]
  | mapEntry t x y => simp only [execOp]; rw [h x (by simp [Op.operands]), h y (by simp [Op.operands])]
  | mapUpdate t x y z => simp only [execOp]; rw [h x (by simp [Op.operands]), h y (by simp [Op.operands]), h z (by simp [Op.operands])]
  | entryStore t x y z => simp only [execOp]; rw [h x (by simp [Op.operands]), h y (by simp [Op.operands]), h z (by simp [Op.operands])]
  | insert t x y z => simp only [execOp]; rw [h x (by simp [Op.operands]), h y (by simp [Op.operands]), h z (by simp [Op.operands])]
  | send x y => simp only [execOp]; rw [h x (by simp [Op.operands]), h y (by simp [Op.operands])]
  | move x => simp only [execOp]; rw [h x (by simp [Op.operands])]
  | assign x => simp only [execOp]; rw [h x (by simp [Op.operands])]
  | box t x => simp only [execOp]; rw [h x (by simp [Op.operands])]
  | load t x => simp only [execOp]; rw [h x (by simp [Op.operands])]
  | unOp u t x => simp only [execOp]; rw [h x (by simp [Op.operands])]
  | convert s t x => simp only [execOp]; rw [h x (by simp [Op.operands])]
  | sliceToArrayPointer t x => simp only [execOp]; rw [h x (by simp [Op.operands])]
  | makeInterface t x => simp only [execOp]; rw [h x (by simp [Op.operands])]
  | makeChan t x => simp only [execOp]; rw [h x (by simp [Op.operands])]
  | fieldAddr t x i => simp only [execOp]; rw [h x (by simp [Op.operands])]
  | field t x i => simp only [execOp]; rw [h x (by simp [Op.operands])]
  | range t x => simp only [execOp]; rw [h x (by simp [Op.operands])]
  | next x b => simp only [execOp]; rw [h x (by simp [Op.operands])]
  | entry x => simp only [execOp]; rw [h x (by simp [Op.operands])]
  | typeAssert x t u b => simp only [execOp]; rw [h x (by simp [Op.operands])]
  | extract x i => simp only [execOp]; rw [h x (by simp [Op.operands])]
  | panic x => simp only [execOp]; rw [h x (by simp [Op.operands])]
  | recv t x b => simp only [execOp]; rw [h x (by simp [Op.operands])]
theorem yielded_getD (ops : Array Oper) (t t' : Array Value) (j : Nat) (h : ∀ o d, ops[j]? = some o → o.dst = some d → t.getD d undef = t'.getD d undef) : yielded ops t j = yielded ops t' j := by
  unfold yielded
  cases ho : ops[j]? with
  | none => rfl
  | some o =>
    cases hd : o.dst with
    | none => simp [hd]
    | some d =>
      have := h o d ho hd
      simp only [Option.bind_some, hd]
      rw [Array.getD_eq_getD_getElem?, Array.getD_eq_getD_getElem?] at this
      cases h1 : t[d]? with
      | none =>
        cases h2 : t'[d]? with
        | none => rfl
        | some y => rw [h1, h2] at this; simp at this; subst this; rfl
      | some x =>
        cases h2 : t'[d]? with
        | none => rw [h1, h2] at this; simp at this; subst this; rfl
        | some y => rw [h1, h2] at this; simp at this; rw [this]
section
variable {P : Program} {n : Nat} {ops : List Oper} {F : Fr} {Inv : World → Prop}
theorem loc {i d : Nat} {o : Oper} {v : Value} {w : World} {a aF : Act} (ho : ops[i]? = some o) (hs : notSel o = true) (hd : o.dst = some d) (hdn : d < n) (hF : FEq n aF F)
    (h : WpO P n ops.toArray (fun f' w' => f' = up F d v ∧ Inv w') [o] F w) (hl : ∀ t ∈ looks ops o, a.tmps.getD t undef = F t)
    {K : Act → World → Prop} {Q : Exit → Act → World → Prop} (hK : ∀ w', Inv w' → K (a.put (some d) v) w') : wpOp P ops.toArray Q i K a w := by
  have h1 := h aF hF (fun e a' w' => e = .normal ∧ ∃ f', FEq n a' f' ∧ f' = up F d v ∧ Inv w') (fun a' w' f' hf hk => ⟨rfl, f', hf, hk⟩)
  have hout : ¬ LetsOut (fun (e : Exit) (a' : Act) (w' : World) => e = .normal ∧ ∃ f', FEq n a' f' ∧ f' = up F d v ∧ Inv w') := by
    rintro ⟨_, _, he, _⟩
    cases he
  have hval : ∀ u w', (∃ f', FEq n (aF.put (some d) u) f' ∧ f' = up F d v ∧ Inv w') → u = v ∧ Inv w' := by
    rintro u w' ⟨f', hf, rfl, hi⟩
    refine ⟨?_, hi⟩
    have e1 := hf.at_ d
    rw [up_eq, if_pos rfl] at e1
    rw [← e1]
    simp [Act.put, Array.getD, hF.size, hdn]
  have he : execOp a.eval o = execOp aF.eval o := execOp_congr hs fun x hx => by
    cases x with
    | tmp t =>
      show a.tmps.getD t undef = aF.tmps.getD t undef
      rw [hl t (by simp only [looks]; refine List.mem_append_left _ (List.mem_filterMap.2 ⟨_, by simpa using hx, rfl⟩)), hF.at_ t]
    | _ => rfl
  have hw : Region.wanted o (yielded ops.toArray a.tmps) = Region.wanted o (yielded ops.toArray aF.tmps) := by
    unfold Region.wanted
    cases hg : o.guard with
    | none => rfl
    | some g =>
      obtain ⟨j, b⟩ := g
      simp only
      rw [yielded_getD _ a.tmps aF.tmps j]
      intro oj dj hoj hdj
      rw [hF.at_ dj]
      refine hl dj ?_
      simp only [looks, hg]
      refine List.mem_append_right _ ?_
      have hoj' : ops[j]? = some oj := by simpa using hoj
      simp [hoj', hdj]
  have ho' : ops.toArray[i]? = some o := by simpa using ho
  have hK' : ∀ w', Inv w' → K (a.put o.dst v) w' := by rw [hd]; exact hK
  have hval' : ∀ u w', (∃ f', FEq n (aF.put o.dst u) f' ∧ f' = up F d v ∧ Inv w') → u = v ∧ Inv w' := by rw [hd]; exact hval
  unfold wpOp
  rw [ho']
  simp only
  unfold wpList at h1
  rw [hw]
  split
  · rename_i hwt
    rw [if_pos hwt] at h1
    rcases h1 with h1 | ⟨_, h1⟩
    · left
      unfold Oper.wp at h1 ⊢
      rw [he]
      generalize (execOp aF.eval o).run P w = r at h1 ⊢
      cases r with
      | ok x w' =>
        cases x <;> simp only [Oper.upon, wpList] at h1 ⊢
        case value u =>
          obtain ⟨rfl, hi⟩ := hval' u w' h1.2
          exact hK' w' hi
        case skip =>
          obtain ⟨e, hi⟩ := hval' undef w' h1.2
          rw [e]; exact hK' w' hi
        case defer dd =>
          obtain ⟨f', hf, _⟩ := h1.2
          exact absurd hf.defers (by rw [hd]; simp [Act.put])
        case enter k args =>
          refine h1.mono fun e w'' hh => ?_
          cases e with
          | returned u =>
            obtain ⟨rfl, hi⟩ := hval' u w'' hh.2
            exact hK' w'' hi
          | panicked c => exact absurd hh.1 (by simp)
          | outgrown => exact (hout hh).elim
        case row r args =>
          refine h1.mono fun u w'' hh => ?_
          obtain ⟨rfl, hi⟩ := hval' u w'' hh.2
          exact hK' w'' hi
      | halt x w' =>
        cases x <;> simp only [Oper.upon] at h1 ⊢
        case panic u => exact absurd h1.1 (by simp)
    · exact (hout h1).elim
  · rename_i hwt
    rw [if_neg hwt] at h1
    simp only [wpList] at h1
    obtain ⟨e, hi⟩ := hval' undef w h1.2
    rw [e]
    exact hK' w hi
theorem wpAny_tail {md : Region.Mode} {m : Nat} {bs : List (List Nat)} {Q : Exit → Act → World → Prop} (hmd : md = .any) (hck : ∀ i o, ops[i]? = some o → tailOne m bs i o = true) (hbs : ∀ (listed : Array Bool) (i : Nat) (o : Oper), ops[i]? = some o →
      (∀ e ∈ o.after, Region.binds .any e = true → listed.getD e.on false = true) → (∀ j, listed.getD j false = true → ∀ q ∈ bs.getD j [], listed.getD q false = true) → ∀ q ∈ bs.getD i [], listed.getD q false = true) :
    ∀ (fuel k : Nat) (listed : Array Bool) (a : Act) (w : World), m ≤ k → k ≤ ops.length → listed.size = ops.length → (∀ j, j < k → listed.getD j false = true) → (∀ j, k ≤ j → j < ops.length → listed.getD j false = false) →
      (∀ j, listed.getD j false = true → ∀ q ∈ bs.getD j [], listed.getD q false = true) → ops.length - k ≤ fuel → wpList P ops.toArray Q (ops.drop k) a w → wpAny P md ops.toArray Q fuel listed a w := by
  subst hmd
  intro fuel
  induction fuel with
  | zero =>
    intro k listed a w hmk hk hsz h1 h2 hcl hf h
    have hke : k = ops.length := by omega
    subst hke
    refine ⟨?_, by simpa [wpList] using h⟩
    unfold Region.ready
    rw [List.filter_eq_nil_iff]
    intro i hi
    have hi' : i < ops.length := by simpa using hi
    have hl := h1 i hi'
    have : listed.getD i true = true := by
      rw [Array.getD_eq_getD_getElem?] at hl ⊢
      cases hx : listed[i]? with
      | none => rfl
      | some b => rw [hx] at hl; simpa using hl
    simp [this]
  | succ fuel ih =>
    intro k listed a w hmk hk hsz h1 h2 hcl hf h
    have hready : ∀ i, i ∈ Region.ready .any ops.toArray listed → i = k ∧ k < ops.length := by
      intro i hi
      obtain ⟨hun, o, ho, hall⟩ := mem_ready.1 hi
      have ho' : ops[i]? = some o := by simpa using ho
      have hil : i < ops.length := (List.getElem?_eq_some_iff.1 ho').1
      have hun' : listed.getD i false = false := by
        rw [Array.getD_eq_getD_getElem?] at hun ⊢
        cases hx : listed[i]? with
        | none => rfl
        | some b => rw [hx] at hun; simpa using hun
      have hik : k ≤ i := by
        rcases Nat.lt_or_ge i k with h' | h'
        · rw [h1 i h'] at hun'; cases hun'
        · exact h'
      have hpre := hbs listed i o ho' (fun e he hb => hall e he hb) hcl
      have hone := hck i o ho'
      unfold tailOne at hone
      simp only [Bool.and_eq_true] at hone
      have h3 := hone.2
      rw [show decide (i < m) = false by simp; omega, Bool.false_or] at h3
      refine ⟨?_, by omega⟩
      rcases Nat.lt_or_ge k i with h' | h'
      · have := List.all_eq_true.1 h3 k (by simpa using h')
        have hmem : k ∈ bs.getD i [] := by simpa using this
        have := hpre k hmem
        rw [h2 k (Nat.le_refl _) (by omega)] at this
        cases this
      · omega
    rcases Nat.lt_or_ge k ops.length with hkl | hkl
    · obtain ⟨o, ho⟩ : ∃ o, ops[k]? = some o := ⟨_, List.getElem?_eq_getElem hkl⟩
      have hdrop : ops.drop k = o :: ops.drop (k + 1) := by
        rw [List.drop_eq_getElem_cons hkl]
        congr 1
        rw [List.getElem?_eq_getElem hkl] at ho
        exact Option.some.inj ho
      rw [hdrop] at h
      refine ⟨fun hnil => ?_, fun i hi => ?_⟩
      · exfalso
        have hkr : k ∈ Region.ready .any ops.toArray listed := by
          refine mem_ready.2 ⟨?_, o, by simpa using ho, fun e he hb => ?_⟩
          · have := h2 k (Nat.le_refl _) hkl
            rw [Array.getD_eq_getD_getElem?, Array.getElem?_eq_getElem (by omega)] at this ⊢
            simpa using this
          · have hone := hck k o ho
            unfold tailOne at hone
            simp only [Bool.and_eq_true] at hone
            have := List.all_eq_true.1 hone.1.1 e (by simpa using he)
            simp only [hb, Bool.not_true, Bool.false_or, decide_eq_true_eq] at this
            exact h1 _ this
        rw [hnil] at hkr
        cases hkr
      · obtain ⟨rfl, _⟩ := hready i hi
        have ho' : ops.toArray[i]? = some o := by simpa using ho
        have hnext : ∀ a w, wpList P ops.toArray Q (ops.drop (i + 1)) a w → wpAny P .any ops.toArray Q fuel (listed.setIfInBounds i true) a w := fun a w hh =>
          ih (i + 1) _ a w (by omega) hkl (by simp [hsz]) (fun j hj => by
            rcases Nat.lt_or_ge j i with h' | h'
            · have := h1 j h'
              rw [Array.getD_eq_getD_getElem?] at this ⊢
              rw [Array.getElem?_setIfInBounds_ne (by omega)]; exact this
            · have : j = i := by omega
              subst this
              rw [Array.getD_eq_getD_getElem?, Array.getElem?_setIfInBounds_self_of_lt (by omega)]; rfl)
            (fun j hj hjl => by
              have := h2 j (by omega) hjl
              rw [Array.getD_eq_getD_getElem?] at this ⊢
              rw [Array.getElem?_setIfInBounds_ne (by omega)]; exact this)
            (fun j hj q hq => by
              have hq' : listed.getD q false = true := by
                rcases Nat.decEq j i with hne | he
                · refine hcl j ?_ q hq
                  rw [Array.getD_eq_getD_getElem?, Array.getElem?_setIfInBounds_ne (fun e => hne e.symm)] at hj
                  rw [Array.getD_eq_getD_getElem?]; exact hj
                · subst he
                  obtain ⟨_, o2, ho2, hall⟩ := mem_ready.1 hi
                  exact hbs listed j o2 (by simpa using ho2) (fun e he hb => hall e he hb) hcl q hq
              rw [Array.getD_eq_getD_getElem?] at hq' ⊢
              by_cases hqi : q = i
              · subst hqi
                rw [Array.getElem?_setIfInBounds_self_of_lt (by omega)]; rfl
              · rw [Array.getElem?_setIfInBounds_ne (fun e => hqi e.symm)]; exact hq')
            (by omega) hh
        unfold wpOp
        rw [ho']
        simp only
        unfold wpList at h
        split
        · rename_i hw
          rw [if_pos hw] at h
          exact h.imp (Oper.wp_mono hnext) id
        · rename_i hw
          rw [if_neg hw] at h
          exact hnext _ _ h
    · have hke : k = ops.length := by omega
      subst hke
      refine ⟨fun _ => by simpa [wpList] using h, fun i hi => ?_⟩
      have := (hready i hi).2
      omega
end
def cnt (listed : Array Bool) : Nat → Nat
  | 0 => 0
  | k + 1 => cnt listed k + (if listed.getD k false then 0 else 1)
theorem getD_set_self {listed : Array Bool} {i : Nat} (h : i < listed.size) : (listed.setIfInBounds i true).getD i false = true := by
  rw [Array.getD_eq_getD_getElem?, Array.getElem?_setIfInBounds_self_of_lt h]; rfl
theorem getD_set_ne {listed : Array Bool} {i j : Nat} (h : j ≠ i) : (listed.setIfInBounds i true).getD j false = listed.getD j false := by
  rw [Array.getD_eq_getD_getElem?, Array.getElem?_setIfInBounds_ne (fun e => h e.symm), Array.getD_eq_getD_getElem?]
theorem cnt_ge {listed : Array Bool} {m : Nat} : ∀ k, (∀ j, m ≤ j → j < k → listed.getD j false = false) → k - m ≤ cnt listed k
  | 0, _ => by simp
  | k + 1, h => by
    have ih := cnt_ge k fun j h1 h2 => h j h1 (by omega)
    unfold cnt
    rcases Nat.lt_or_ge k m with hk | hk
    · omega
    · rw [h k hk (by omega)]; simp; omega
theorem cnt_zero {listed : Array Bool} : ∀ k, cnt listed k = 0 → ∀ j, j < k → listed.getD j false = true
  | 0, _, j, hj => by omega
  | k + 1, h, j, hj => by
    unfold cnt at h
    rcases Nat.lt_or_ge j k with hk | hk
    · exact cnt_zero k (by omega) j hk
    · have : j = k := by omega
      subst this
      cases hx : listed.getD j false with
      | true => rfl
      | false => rw [hx] at h; simp at h
theorem cnt_set_out {listed : Array Bool} {i : Nat} : ∀ k, k ≤ i → cnt (listed.setIfInBounds i true) k = cnt listed k
  | 0, _ => rfl
  | k + 1, h => by
    unfold cnt
    rw [cnt_set_out k (by omega), getD_set_ne (by omega)]
theorem cnt_set {listed : Array Bool} {i : Nat} (hs : i < listed.size) (hi : listed.getD i false = false) : ∀ k, i < k → cnt (listed.setIfInBounds i true) k + 1 = cnt listed k
  | 0, h => by omega
  | k + 1, h => by
    unfold cnt
    rcases Nat.lt_or_ge i k with hk | hk
    · have := cnt_set hs hi k hk
      rw [getD_set_ne (by omega)]
      omega
    · have : i = k := by omega
      subst this
      rw [cnt_set_out i (Nat.le_refl _), getD_set_self hs, hi]
      simp
theorem cnt_init (N : Nat) : ∀ k, cnt (Array.replicate N false) k = k
  | 0 => rfl
  | k + 1 => by
    unfold cnt
    rw [cnt_init N k]
    have : (Array.replicate N false).getD k false = false := by
      rw [Array.getD_eq_getD_getElem?]
      cases h : (Array.replicate N false)[k]? with
      | none => rfl
      | some b =>
        rw [Array.getElem?_replicate] at h
        split at h <;> simp_all
    rw [this]; simp
theorem least {p : Nat → Bool} : ∀ m, (¬ ∀ j, j < m → p j = true) → ∃ j, j < m ∧ p j = false ∧ ∀ i, i < j → p i = true
  | 0, h => absurd (fun j hj => by omega) h
  | m + 1, h => by
    by_cases h' : ∀ j, j < m → p j = true
    · refine ⟨m, by omega, ?_, h'⟩
      cases hx : p m with
      | false => rfl
      | true =>
        exfalso
        apply h
        intro j hj
        rcases Nat.lt_or_ge j m with hk | hk
        · exact h' j hk
        · have : j = m := by omega
          rw [this]; exact hx
    · obtain ⟨j, hj, h1, h2⟩ := least m h'
      exact ⟨j, by omega, h1, h2⟩
theorem ups_not {t : Nat} : ∀ (r : List (Nat × Value)) (f : Fr), (∀ p ∈ r, p.1 ≠ t) → ups f r t = f t
  | [], _, _ => rfl
  | (d, v) :: r, f, h => by
    unfold ups
    rw [ups_not r _ fun p hp => h p (by simp [hp]), up_eq, if_neg]
    exact fun e => h (d, v) (by simp) e.symm
theorem ups_get {d : Nat} {v : Value} : ∀ (r : List (Nat × Value)) (f : Fr) (i : Nat), r[i]? = some (d, v) → (∀ j p, r[j]? = some p → p.1 = d → j = i) → ups f r d = v
  | [], _, _, h, _ => by simp at h
  | (d', v') :: r, f, 0, h, hu => by
    simp at h
    obtain ⟨rfl, rfl⟩ := h
    unfold ups
    rw [ups_not r _ fun p hp e => by
      obtain ⟨j, hj⟩ := List.getElem?_of_mem hp
      have := hu (j + 1) p (by simpa using hj) e
      omega]
    rw [up_eq, if_pos rfl]
  | (d', v') :: r, f, i + 1, h, hu => by
    unfold ups
    exact ups_get r _ i (by simpa using h) fun j p hj e => by
      have := hu (j + 1) p (by simpa using hj) e
      omega
theorem ups_feq {n : Nat} : ∀ (r : List (Nat × Value)) (a : Act) (f : Fr), FEq n a f → (∀ p ∈ r, p.1 < n) → ∃ a', FEq n a' (ups f r)
  | [], a, _, h, _ => ⟨a, h⟩
  | (d, v) :: r, a, f, h, hr => ups_feq r _ _ (h.put (d := d) (by simpa [Nat.blt_eq] using hr (d, v) (by simp)) v) fun p hp => hr p (by simp [hp])
section
variable {P : Program} {n : Nat} {ops : List Oper} {F f : Fr} {Inv : World → Prop}
theorem yll_get {opsA : Array Oper} : ∀ (l : List Oper) (r : List (Nat × Value)), YlL P n opsA Inv F l r → l.length = r.length ∧ ∀ (i : Nat) (o : Oper), l[i]? = some o → ∃ (d : Nat) (v : Value), r[i]? = some (d, v) ∧ o.dst = some d ∧ ∀ w, Inv w → WpO P n opsA (fun f' w' => f' = up F d v ∧ Inv w') [o] F w
  | [], [], _ => ⟨rfl, fun i o h => by simp at h⟩
  | [], _ :: _, h => h.elim
  | _ :: _, [], h => h.elim
  | o :: l, (d, v) :: r, ⟨h1, h2, h3⟩ => by
    obtain ⟨hl, hg⟩ := yll_get l r h3
    refine ⟨by simp [hl], fun i o' h => ?_⟩
    cases i with
    | zero =>
      simp at h
      subst h
      exact ⟨d, v, rfl, h1, h2⟩
    | succ i => simpa using hg i o' (by simpa using h)
theorem drawOk_spec {m : Nat} {bs : List (List Nat)} (hck : drawOk n m ops bs = true) : m ≤ ops.length ∧ (∀ i j oi oj, i < m → j < m → i ≠ j → ops[i]? = some oi → ops[j]? = some oj → oi.dst ≠ oj.dst) ∧ ∀ i o, ops[i]? = some o → drawOne n m ops bs i o = true := by
  unfold drawOk at hck
  simp only [Bool.and_eq_true, decide_eq_true_eq] at hck
  obtain ⟨⟨h1, h2⟩, h3⟩ := hck
  refine ⟨h1, fun i j oi oj hi hj hne hoi hoj => ?_, fun i o ho => ?_⟩
  · have := List.all_eq_true.1 (List.all_eq_true.1 h2 i (by simpa using hi)) j (by simpa using hj)
    rw [hoi, hoj] at this
    simp [hne] at this
    exact this
  · have := List.all_eq_true.1 h3 i (by simpa using (List.getElem?_eq_some_iff.1 ho).1)
    rw [ho] at this
    exact this
theorem drawOne_closed {m : Nat} {bs : List (List Nat)} {i : Nat} {o : Oper} (h : drawOne n m ops bs i o = true) (listed : Array Bool) (hall : ∀ e ∈ o.after, Region.binds .any e = true → listed.getD e.on false = true)
    (hcl : ∀ j, listed.getD j false = true → ∀ q ∈ bs.getD j [], listed.getD q false = true) : ∀ q ∈ bs.getD i [], listed.getD q false = true := by
  intro q hq
  unfold drawOne at h
  simp only [Bool.and_eq_true] at h
  have := List.all_eq_true.1 h.1.2 q hq
  obtain ⟨e, he, hb⟩ := List.any_eq_true.1 this
  simp only [Bool.and_eq_true, Bool.or_eq_true, beq_iff_eq] at hb
  obtain ⟨hbi, hb | hb⟩ := hb
  · rw [← hb]; exact hall e (by simpa using he) hbi
  · exact hcl e.on (hall e (by simpa using he) hbi) q (by simpa using hb)
theorem wpAny_draw {m : Nat} {bs : List (List Nat)} {vals : List (Nat × Value)} {K : Fr → World → Prop} {Q : Exit → Act → World → Prop} {aF : Act} (hck : drawOk n m ops bs = true) (hF : F = ups f vals) (haF : FEq n aF F)
    (hpre : YlL P n ops.toArray Inv F (ops.take m) vals) (htail : ∀ w, Inv w → WpO P n ops.toArray K (ops.drop m) F w) (hQ : ∀ a' w' f', FEq n a' f' → K f' w' → Q .normal a' w') :
    ∀ (fuel : Nat) (listed : Array Bool) (a : Act) (w : World), a.defers = [] → a.tmps.size = n → listed.size = ops.length → Inv w → (∀ j, m ≤ j → listed.getD j false = false) →
      (∀ j, listed.getD j false = true → ∀ q ∈ bs.getD j [], listed.getD q false = true) →
      (∀ t, (∀ j o, j < m → listed.getD j false = true → ops[j]? = some o → o.dst ≠ some t) → a.tmps.getD t undef = f t) →
      (∀ j o t, j < m → listed.getD j false = true → ops[j]? = some o → o.dst = some t → a.tmps.getD t undef = F t) → cnt listed ops.length ≤ fuel → wpAny P .any ops.toArray Q fuel listed a w := by
  obtain ⟨hm, hdist, hone⟩ := drawOk_spec hck
  obtain ⟨hlen, hget⟩ := yll_get _ _ hpre
  have htk : ∀ i o, i < m → ops[i]? = some o → (ops.take m)[i]? = some o := fun i o hi ho => by rw [List.getElem?_take, if_pos hi]; exact ho
  have hFd : ∀ i o d v, i < m → ops[i]? = some o → vals[i]? = some (d, v) → o.dst = some d → F d = v := fun i o d v hi ho hv hd => by
    rw [hF]
    refine ups_get vals f i hv fun j p hj e => ?_
    have hjm : j < m := by
      have := (List.getElem?_eq_some_iff.1 hj).1
      rw [← hlen] at this
      simp at this
      omega
    rcases Nat.decEq j i with hne | he
    · exfalso
      obtain ⟨oj, hoj⟩ : ∃ oj, ops[j]? = some oj := ⟨_, List.getElem?_eq_getElem (by omega)⟩
      obtain ⟨d', v', hv', hd', _⟩ := hget j oj (htk j oj hjm hoj)
      rw [hj] at hv'
      have := Option.some.inj hv'
      subst this
      exact hdist j i oj o hjm hi hne hoj ho (by rw [hd', hd, ← e])
    · exact he
  have hFo : ∀ t, (∀ j o, j < m → ops[j]? = some o → o.dst ≠ some t) → F t = f t := fun t ht => by
    rw [hF]
    refine ups_not vals f fun p hp e => ?_
    obtain ⟨j, hj⟩ := List.getElem?_of_mem hp
    have hjm : j < m := by
      have := (List.getElem?_eq_some_iff.1 hj).1
      rw [← hlen] at this
      simp at this
      omega
    obtain ⟨oj, hoj⟩ : ∃ oj, ops[j]? = some oj := ⟨_, List.getElem?_eq_getElem (by omega)⟩
    obtain ⟨d', v', hv', hd', _⟩ := hget j oj (htk j oj hjm hoj)
    rw [hj] at hv'
    have := Option.some.inj hv'
    subst this
    exact ht j oj hjm hoj (by rw [hd', ← e])
  intro fuel
  induction fuel with
  | zero =>
    intro listed a w had hsz hls hi hlow hcl hout hin hcnt
    have hz := cnt_zero _ (Nat.le_zero.1 hcnt)
    refine wpAny_tail rfl (fun i o ho => tailOne_of (hone i o ho)) (fun l i o ho hall hc => drawOne_closed (hone i o ho) l hall hc) 0 m listed a w (Nat.le_refl _) hm hls (fun j hj => hz j (by omega)) (fun j hj _ => hlow j hj) hcl ?_ ?_
    · have := cnt_ge (listed := listed) (m := m) ops.length fun j h1 _ => hlow j h1
      omega
    · refine htail w hi a ⟨had, hsz, fun t => ?_⟩ Q hQ
      by_cases hx : ∃ j o, j < m ∧ ops[j]? = some o ∧ o.dst = some t
      · obtain ⟨j, o, hj, ho, hd⟩ := hx
        exact hin j o t hj (hz j (by omega)) ho hd
      · rw [hFo t fun j o hj ho hd => hx ⟨j, o, hj, ho, hd⟩]
        exact hout t fun j o hj _ ho hd => hx ⟨j, o, hj, ho, hd⟩
  | succ fuel ih =>
    intro listed a w had hsz hls hi hlow hcl hout hin hcnt
    by_cases hall : ∀ j, j < m → listed.getD j false = true
    · refine wpAny_tail rfl (fun i o ho => tailOne_of (hone i o ho)) (fun l i o ho hall hc => drawOne_closed (hone i o ho) l hall hc) (fuel + 1) m listed a w (Nat.le_refl _) hm hls hall (fun j hj _ => hlow j hj) hcl ?_ ?_
      · have := cnt_ge (listed := listed) (m := m) ops.length fun j h1 _ => hlow j h1
        omega
      · refine htail w hi a ⟨had, hsz, fun t => ?_⟩ Q hQ
        by_cases hx : ∃ j o, j < m ∧ ops[j]? = some o ∧ o.dst = some t
        · obtain ⟨j, o, hj, ho, hd⟩ := hx
          exact hin j o t hj (hall j hj) ho hd
        · rw [hFo t fun j o hj ho hd => hx ⟨j, o, hj, ho, hd⟩]
          exact hout t fun j o hj _ ho hd => hx ⟨j, o, hj, ho, hd⟩
    · obtain ⟨j0, hj0, hun0, hbelow⟩ := least m hall
      refine ⟨fun hnil => ?_, fun i hir => ?_⟩
      · exfalso
        obtain ⟨o, ho⟩ : ∃ o, ops[j0]? = some o := ⟨_, List.getElem?_eq_getElem (by omega)⟩
        have hkr : j0 ∈ Region.ready .any ops.toArray listed := by
          refine mem_ready.2 ⟨?_, o, by simpa using ho, fun e he hb => ?_⟩
          · rw [Array.getD_eq_getD_getElem?, Array.getElem?_eq_getElem (by omega)] at hun0 ⊢
            simpa using hun0
          · have h1 := hone j0 o ho
            unfold drawOne at h1
            simp only [Bool.and_eq_true] at h1
            have := List.all_eq_true.1 h1.1.1 e (by simpa using he)
            simp only [hb, Bool.not_true, Bool.false_or, decide_eq_true_eq] at this
            exact hbelow _ this
        rw [hnil] at hkr
        cases hkr
      · obtain ⟨hun, o, ho, hafter⟩ := mem_ready.1 hir
        have ho' : ops[i]? = some o := by simpa using ho
        have hil : i < ops.length := (List.getElem?_eq_some_iff.1 ho').1
        have hun' : listed.getD i false = false := by
          rw [Array.getD_eq_getD_getElem?, Array.getElem?_eq_getElem (by omega)] at hun ⊢
          simpa using hun
        have hprei := drawOne_closed (hone i o ho') listed (fun e he hb => hafter e he hb) hcl
        have h1 := hone i o ho'
        unfold drawOne at h1
        simp only [Bool.and_eq_true] at h1
        obtain ⟨_, h1⟩ := h1
        have him : i < m := by
          rcases Nat.lt_or_ge i m with h' | h'
          · exact h'
          · exfalso
            rw [if_neg (by omega)] at h1
            have := List.all_eq_true.1 h1 j0 (by simp; omega)
            have := hprei j0 (by simpa using this)
            rw [hun0] at this
            cases this
        rw [if_pos him] at h1
        simp only [Bool.and_eq_true] at h1
        obtain ⟨⟨hsel, hdn⟩, hlooks⟩ := h1
        obtain ⟨d, v, hv, hd, hwp⟩ := hget i o (htk i o him ho')
        rw [hd] at hdn
        have hdn' : d < n := by simpa using hdn
        refine loc ho' hsel hd hdn' haF (hwp w hi) (fun t ht => ?_) fun w' hi' => ?_
        · have h2 := List.all_eq_true.1 hlooks t ht
          by_cases hx : ∃ j oj, j < m ∧ ops[j]? = some oj ∧ oj.dst = some t
          · obtain ⟨j, oj, hj, hoj, hdj⟩ := hx
            have h3 := List.all_eq_true.1 h2 j (by simpa using hj)
            rw [hoj] at h3
            simp [hdj] at h3
            exact hin j oj t hj (hprei j (by simpa using h3)) hoj hdj
          · rw [hFo t fun j o hj ho hd => hx ⟨j, o, hj, ho, hd⟩]
            exact hout t fun j o hj _ ho hd => hx ⟨j, o, hj, ho, hd⟩
        · have hput : ∀ t, t ≠ d → (a.put (some d) v).tmps.getD t undef = a.tmps.getD t undef := fun t ht => by
            simp only [Act.put]
            rw [Array.getD_eq_getD_getElem?, Array.getElem?_setIfInBounds_ne (fun e => ht e.symm), Array.getD_eq_getD_getElem?]
          have hputd : (a.put (some d) v).tmps.getD d undef = v := by
            simp only [Act.put]
            rw [Array.getD_eq_getD_getElem?, Array.getElem?_setIfInBounds_self_of_lt (by omega)]; rfl
          have hFv : F d = v := hFd i o d v him ho' hv hd
          refine ih _ _ w' had (by simp [Act.put, hsz]) (by simp [hls]) hi' (fun j hj => by rw [getD_set_ne (by omega)]; exact hlow j hj) (fun j hj q hq => ?_) (fun t ht => ?_) (fun j oj t hj hlj hoj hdj => ?_) ?_
          · have hq' : listed.getD q false = true := by
              rcases Nat.decEq j i with hne | he
              · rw [getD_set_ne hne] at hj
                exact hcl j hj q hq
              · subst he
                exact hprei q hq
            by_cases hqi : q = i
            · rw [hqi]; exact getD_set_self (by omega)
            · rw [getD_set_ne hqi]; exact hq'
          · have htd : t ≠ d := fun e => ht i o him (getD_set_self (by omega)) ho' (by rw [hd, e])
            rw [hput t htd]
            exact hout t fun j oj hj hlj hoj => ht j oj hj (by
              by_cases hji : j = i
              · rw [hji]; exact getD_set_self (by omega)
              · rw [getD_set_ne hji]; exact hlj) hoj
          · rcases Nat.decEq t d with htd | htd
            · rw [hput t htd]
              rcases Nat.decEq j i with hne | he
              · rw [getD_set_ne hne] at hlj
                exact hin j oj t hj hlj hoj hdj
              · subst he
                rw [ho'] at hoj
                obtain rfl := Option.some.inj hoj
                rw [hd] at hdj
                exact absurd (Option.some.inj hdj).symm htd
            · subst htd
              rw [hputd, hFv]
          · have := cnt_set (listed := listed) (i := i) (by omega) hun' ops.length hil
            omega
theorem wpf_draw {id : Nat} {w : World} {Q : Exit → Fr → World → Prop} (m : Nat) (vals : List (Nat × Value)) (Inv : World → Prop) (hmx : P.follows .mixedOrders = true) (hck : drawOk n m ops (befores ops) = true) (h0 : Inv w.drew)
    (hpre : YlL P n ops.toArray Inv (ups f vals) (ops.take m) vals) (htail : ∀ w', Inv w' → WpO P n ops.toArray (Q .normal) (ops.drop m) (ups f vals) w') : Wpf P n Q (.region id ops.toArray true) f w := fun a ha => by
  obtain ⟨hm, _, hone⟩ := drawOk_spec hck
  obtain ⟨hlen, hget⟩ := yll_get _ _ hpre
  obtain ⟨aF, haF⟩ := ups_feq vals a f ha fun p hp => by
    obtain ⟨j, hj⟩ := List.getElem?_of_mem hp
    have hjm : j < m := by
      have := (List.getElem?_eq_some_iff.1 hj).1
      rw [← hlen] at this
      simp at this
      omega
    obtain ⟨oj, hoj⟩ : ∃ oj, ops[j]? = some oj := ⟨_, List.getElem?_eq_getElem (by omega)⟩
    obtain ⟨d, v, hv, hd, _⟩ := hget j oj (by rw [List.getElem?_take, if_pos hjm]; exact hoj)
    rw [hj] at hv
    have := Option.some.inj hv
    subst this
    have h1 := hone j oj hoj
    unfold drawOne at h1
    simp only [Bool.and_eq_true, if_pos hjm, hd] at h1
    simpa using h1.2.1.2
  refine wp_region_any hmx ?_
  have hrep : ∀ j, (Array.replicate ops.toArray.size false).getD j false = false := fun j => by
    rw [Array.getD_eq_getD_getElem?]
    cases h : (Array.replicate ops.toArray.size false)[j]? with
    | none => rfl
    | some b => rw [Array.getElem?_replicate] at h; split at h <;> simp_all
  refine wpAny_draw (K := Q .normal) hck rfl haF hpre htail (fun a' w' f' hf hK => ⟨f', hf, hK⟩) _ _ a _ ha.defers ha.size (by simp) h0 (fun j _ => hrep j) (fun j hj => by rw [hrep j] at hj; cases hj) (fun t _ => ha.at_ t) (fun j o t _ hj => by rw [hrep j] at hj; cases hj) ?_
  rw [show ops.toArray.size = ops.length by simp, cnt_init]
  exact Nat.le_refl _
theorem grown_drew (w : World) {r : Option Nat} : w.grownBy w.drew r := ⟨rfl, rfl, rfl, Nat.le_refl _, fun _ _ _ => rfl⟩
theorem wpf_mid {c : Code} {w : World} {Q : Exit → Fr → World → Prop} (M : Fr → World → Prop) (h : Wpf P n (thn M Q) c f w) (hM : ∀ f w, M f w → Q .normal f w) : Wpf P n Q c f w :=
  h.mono fun e f w hq => by cases e <;> first | exact hM _ _ hq | exact hq
end
section
variable {P : Program} {n : Nat} {ops : List Oper} {f : Fr}
theorem loc2 {i : Nat} {o : Oper} {w : World} {a : Act} {F : Fr} {K1 : Fr → World → Prop} (ho : ops[i]? = some o) (hF : FEq n a F) (h : WpO P n ops.toArray K1 [o] F w)
    {K : Act → World → Prop} {Q : Exit → Act → World → Prop} (hK : ∀ a' w' f', FEq n a' f' → K1 f' w' → K a' w') : wpOp P ops.toArray Q i K a w := by
  have h1 := h a hF (fun e a' w' => e = .normal ∧ ∃ f', FEq n a' f' ∧ K1 f' w') (fun a' w' f' hf hk => ⟨rfl, f', hf, hk⟩)
  have hout : ¬ LetsOut (fun (e : Exit) (a' : Act) (w' : World) => e = .normal ∧ ∃ f', FEq n a' f' ∧ K1 f' w') := by
    rintro ⟨_, _, he, _⟩
    cases he
  have hK' : ∀ a' w', (∃ f', FEq n a' f' ∧ K1 f' w') → K a' w' := fun a' w' ⟨f', hf, hk⟩ => hK a' w' f' hf hk
  have ho' : ops.toArray[i]? = some o := by simpa using ho
  unfold wpOp
  rw [ho']
  simp only
  unfold wpList at h1
  split
  · rename_i hwt
    rw [if_pos hwt] at h1
    rcases h1 with h1 | ⟨_, h1⟩
    · left
      unfold Oper.wp at h1 ⊢
      generalize (execOp a.eval o).run P w = r at h1 ⊢
      cases r with
      | ok x w' =>
        cases x <;> simp only [Oper.upon, wpList] at h1 ⊢
        case value u => exact hK' _ _ h1.2
        case skip => exact hK' _ _ h1.2
        case defer dd => exact hK' _ _ h1.2
        case enter k args =>
          refine h1.mono fun e w'' hh => ?_
          cases e with
          | returned u => exact hK' _ _ hh.2
          | panicked c => exact absurd hh.1 (by simp)
          | outgrown => exact (hout hh).elim
        case row r args => exact h1.mono fun u w'' hh => hK' _ _ hh.2
      | halt x w' =>
        cases x <;> simp only [Oper.upon] at h1 ⊢
        case panic u => exact absurd h1.1 (by simp)
    · exact (hout h1).elim
  · rename_i hwt
    rw [if_neg hwt] at h1
    simp only [wpList] at h1
    exact hK' _ _ h1.2
theorem tailOne_closed {m : Nat} {bs : List (List Nat)} {i : Nat} {o : Oper} (h : tailOne m bs i o = true) (listed : Array Bool) (hall : ∀ e ∈ o.after, Region.binds .any e = true → listed.getD e.on false = true)
    (hcl : ∀ j, listed.getD j false = true → ∀ q ∈ bs.getD j [], listed.getD q false = true) : ∀ q ∈ bs.getD i [], listed.getD q false = true := by
  intro q hq
  unfold tailOne at h
  simp only [Bool.and_eq_true] at h
  have := List.all_eq_true.1 h.1.2 q hq
  obtain ⟨e, he, hb⟩ := List.any_eq_true.1 this
  simp only [Bool.and_eq_true, Bool.or_eq_true, beq_iff_eq] at hb
  obtain ⟨hbi, hb | hb⟩ := hb
  · rw [← hb]; exact hall e (by simpa using he) hbi
  · exact hcl e.on (hall e (by simpa using he) hbi) q (by simpa using hb)
theorem done_set {listed : Array Bool} {i : Nat} (h : i < listed.size) : (fun j => (listed.setIfInBounds i true).getD j false) = fun j => j == i || listed.getD j false := by
  funext j
  by_cases hj : j = i
  · subst hj; rw [getD_set_self h]; simp
  · rw [getD_set_ne hj]; simp [hj]
theorem wpAny_drawI {m : Nat} {bs : List (List Nat)} {I : (Nat → Bool) → Fr → World → Prop} {K : Fr → World → Prop} {Q : Exit → Act → World → Prop} (hm : m ≤ ops.length) (hone : ∀ i o, ops[i]? = some o → tailOne m bs i o = true)
    (hpre : ∀ i o, i < m → ops[i]? = some o → ∀ S F w, S i = false → (∀ j ∈ bs.getD i [], S j = true) → (∀ j, S j = true → ∀ q ∈ bs.getD j [], S q = true) → I S F w →
      WpO P n ops.toArray (fun F' w' => I (fun j => j == i || S j) F' w') [o] F w)
    (htail : ∀ S F w, (∀ j, j < m → S j = true) → I S F w → WpO P n ops.toArray K (ops.drop m) F w) (hQ : ∀ a' w' f', FEq n a' f' → K f' w' → Q .normal a' w') :
    ∀ (fuel : Nat) (listed : Array Bool) (a : Act) (F : Fr) (w : World), FEq n a F → listed.size = ops.length → I (fun j => listed.getD j false) F w → (∀ j, m ≤ j → listed.getD j false = false) →
      (∀ j, listed.getD j false = true → ∀ q ∈ bs.getD j [], listed.getD q false = true) → cnt listed ops.length ≤ fuel → wpAny P .any ops.toArray Q fuel listed a w := by
  intro fuel
  induction fuel with
  | zero =>
    intro listed a F w ha hls hi hlow hcl hcnt
    have hz := cnt_zero _ (Nat.le_zero.1 hcnt)
    refine wpAny_tail rfl hone (fun l i o ho hall hc => tailOne_closed (hone i o ho) l hall hc) 0 m listed a w (Nat.le_refl _) hm hls (fun j hj => hz j (by omega)) (fun j hj _ => hlow j hj) hcl ?_ ?_
    · have := cnt_ge (listed := listed) (m := m) ops.length fun j h1 _ => hlow j h1
      omega
    · exact htail _ F w (fun j hj => hz j (by omega)) hi a ha Q hQ
  | succ fuel ih =>
    intro listed a F w ha hls hi hlow hcl hcnt
    by_cases hall : ∀ j, j < m → listed.getD j false = true
    · refine wpAny_tail rfl hone (fun l i o ho hall hc => tailOne_closed (hone i o ho) l hall hc) (fuel + 1) m listed a w (Nat.le_refl _) hm hls hall (fun j hj _ => hlow j hj) hcl ?_ ?_
      · have := cnt_ge (listed := listed) (m := m) ops.length fun j h1 _ => hlow j h1
        omega
      · exact htail _ F w hall hi a ha Q hQ
    · obtain ⟨j0, hj0, hun0, hbelow⟩ := least m hall
      refine ⟨fun hnil => ?_, fun i hir => ?_⟩
      · exfalso
        obtain ⟨o, ho⟩ : ∃ o, ops[j0]? = some o := ⟨_, List.getElem?_eq_getElem (by omega)⟩
        have hkr : j0 ∈ Region.ready .any ops.toArray listed := by
          refine mem_ready.2 ⟨?_, o, by simpa using ho, fun e he hb => ?_⟩
          · rw [Array.getD_eq_getD_getElem?, Array.getElem?_eq_getElem (by omega)] at hun0 ⊢
            simpa using hun0
          · have h1 := hone j0 o ho
            unfold tailOne at h1
            simp only [Bool.and_eq_true] at h1
            have := List.all_eq_true.1 h1.1.1 e (by simpa using he)
            simp only [hb, Bool.not_true, Bool.false_or, decide_eq_true_eq] at this
            exact hbelow _ this
        rw [hnil] at hkr
        cases hkr
      · obtain ⟨hun, o, ho, hafter⟩ := mem_ready.1 hir
        have ho' : ops[i]? = some o := by simpa using ho
        have hil : i < ops.length := (List.getElem?_eq_some_iff.1 ho').1
        have hun' : listed.getD i false = false := by
          rw [Array.getD_eq_getD_getElem?, Array.getElem?_eq_getElem (by omega)] at hun ⊢
          simpa using hun
        have hprei := tailOne_closed (hone i o ho') listed (fun e he hb => hafter e he hb) hcl
        have him : i < m := by
          rcases Nat.lt_or_ge i m with h' | h'
          · exact h'
          · exfalso
            have h1 := hone i o ho'
            unfold tailOne at h1
            simp only [Bool.and_eq_true] at h1
            have h3 := h1.2
            rw [show decide (i < m) = false by simp; omega, Bool.false_or] at h3
            have := List.all_eq_true.1 h3 j0 (by simp; omega)
            have := hprei j0 (by simpa using this)
            rw [hun0] at this
            cases this
        refine loc2 ho' ha (hpre i o him ho' _ F w hun' hprei hcl hi) fun a' w' f' hf hI => ?_
        refine ih _ _ f' w' hf (by simp [hls]) ?_ (fun j hj => by rw [getD_set_ne (by omega)]; exact hlow j hj) (fun j hj q hq => ?_) ?_
        · rw [done_set (by omega)]; exact hI
        · have hq' : listed.getD q false = true := by
            rcases Nat.decEq j i with hne | he
            · rw [getD_set_ne hne] at hj
              exact hcl j hj q hq
            · subst he
              exact hprei q hq
          by_cases hqi : q = i
          · rw [hqi]; exact getD_set_self (by omega)
          · rw [getD_set_ne hqi]; exact hq'
        · have := cnt_set (listed := listed) (i := i) (by omega) hun' ops.length hil
          omega
def PreL (P : Program) (n : Nat) (ops : Array Oper) (bs : List (List Nat)) (I : (Nat → Bool) → Fr → World → Prop) : Nat → List Oper → Prop
  | _, [] => True
  | i, o :: l => (∀ S F w, S i = false → (∀ j ∈ bs.getD i [], S j = true) → (∀ j, S j = true → ∀ q ∈ bs.getD j [], S q = true) → I S F w → WpO P n ops (fun F' w' => I (fun j => j == i || S j) F' w') [o] F w) ∧ PreL P n ops bs I (i + 1) l
theorem preL_nil {ops : Array Oper} {bs : List (List Nat)} {I : (Nat → Bool) → Fr → World → Prop} {i : Nat} : PreL P n ops bs I i [] := trivial
theorem preL_cons {ops : Array Oper} {bs : List (List Nat)} {I : (Nat → Bool) → Fr → World → Prop} {i : Nat} {o : Oper} {l : List Oper}
    (h : ∀ S F w, S i = false → (∀ j ∈ bs.getD i [], S j = true) → (∀ j, S j = true → ∀ q ∈ bs.getD j [], S q = true) → I S F w → WpO P n ops (fun F' w' => I (fun j => j == i || S j) F' w') [o] F w)
    (t : PreL P n ops bs I (i + 1) l) : PreL P n ops bs I i (o :: l) := ⟨h, t⟩
theorem preL_get {opsA : Array Oper} {bs : List (List Nat)} {I : (Nat → Bool) → Fr → World → Prop} : ∀ (l : List Oper) (k i : Nat) (o : Oper), PreL P n opsA bs I k l → l[i]? = some o →
    ∀ S F w, S (k + i) = false → (∀ j ∈ bs.getD (k + i) [], S j = true) → (∀ j, S j = true → ∀ q ∈ bs.getD j [], S q = true) → I S F w → WpO P n opsA (fun F' w' => I (fun j => j == k + i || S j) F' w') [o] F w
  | [], _, _, _, _, ho => by simp at ho
  | p :: l, k, 0, o, h, ho => by
    obtain rfl : p = o := by simpa using ho
    exact h.1
  | p :: l, k, i + 1, o, h, ho => by
    have := preL_get l (k + 1) i o h.2 (by simpa using ho)
    rwa [show k + 1 + i = k + (i + 1) by omega] at this
theorem wpf_drawI {id : Nat} {w : World} {Q : Exit → Fr → World → Prop} (m : Nat) (bs : List (List Nat)) (I : (Nat → Bool) → Fr → World → Prop) (hmx : P.follows .mixedOrders = true) (hck : drawOkI m ops bs = true) (h0 : I (fun _ => false) f w.drew)
    (hpre : PreL P n ops.toArray bs I 0 (ops.take m)) (htail : ∀ S F w, (∀ j, j < m → S j = true) → I S F w → WpO P n ops.toArray (Q .normal) (ops.drop m) F w) : Wpf P n Q (.region id ops.toArray true) f w := fun a ha => by
  unfold drawOkI at hck
  simp only [Bool.and_eq_true, decide_eq_true_eq] at hck
  obtain ⟨hm, hck⟩ := hck
  have hone : ∀ i o, ops[i]? = some o → tailOne m bs i o = true := fun i o ho => by
    have := List.all_eq_true.1 hck i (by simpa using (List.getElem?_eq_some_iff.1 ho).1)
    rw [ho] at this
    exact this
  refine wp_region_any hmx ?_
  have hrep : ∀ j, (Array.replicate ops.toArray.size false).getD j false = false := fun j => by
    rw [Array.getD_eq_getD_getElem?]
    cases h : (Array.replicate ops.toArray.size false)[j]? with
    | none => rfl
    | some b => rw [Array.getElem?_replicate] at h; split at h <;> simp_all
  refine wpAny_drawI (K := Q .normal) hm hone (fun i o hi ho S F w h1 h2 h3 h4 => ?_) htail (fun a' w' f' hf hK => ⟨f', hf, hK⟩) _ _ a f _ ha (by simp) (by simp only [hrep]; exact h0) (fun j _ => hrep j) (fun j hj => by rw [hrep j] at hj; cases hj) ?_
  · have := preL_get _ 0 i o hpre (by rw [List.getElem?_take, if_pos hi]; exact ho) S F w (by simpa using h1) (by simpa using h2) h3 h4
    simpa using this
  · rw [show ops.toArray.size = ops.length by simp, cnt_init]
    exact Nat.le_refl _
theorem not_begun {C : Prop} (h : false = true) : C := by cases h
theorem undone {S : (Nat → Bool)} {bs : List (List Nat)} {C : Prop} {i : Nat} (j : Nat) (hi : S i = false) (hcl : ∀ j, S j = true → ∀ q ∈ bs.getD j [], S q = true) (hq : (bs.getD j []).contains i = true) (h : S j = true) : C := by
  have := hcl j h i (by simpa using hq)
  rw [hi] at this
  cases this
theorem ready_of {S : (Nat → Bool)} {bs : List (List Nat)} {i : Nat} (j : Nat) (h : ∀ j ∈ bs.getD i [], S j = true) (hq : (bs.getD i []).contains j = true) : S j = true := h j (by simpa using hq)
end
def Vals (S : Nat → Bool) (F : Fr) : List (Nat × Nat × Value) → Prop
  | [] => True
  | x :: l => (S x.1 = true → F x.2.1 = x.2.2) ∧ Vals S F l
def vnew (i d : Nat) : List (Nat × Nat × Value) → Bool
  | [] => true
  | x :: l => !Nat.beq x.1 i && !Nat.beq x.2.1 d && vnew i d l
def vnew0 (i : Nat) : List (Nat × Nat × Value) → Bool
  | [] => true
  | x :: l => !Nat.beq x.1 i && vnew0 i l
def vold (i d : Nat) : Nat → List (Nat × Nat × Value) → Bool
  | _, [] => true
  | 0, _ :: l => vnew i d l
  | k + 1, x :: l => !Nat.beq x.1 i && !Nat.beq x.2.1 d && vold i d k l
theorem vals_0 {F : Fr} : ∀ l, Vals (fun _ => false) F l
  | [] => trivial
  | _ :: l => ⟨(fun h => by cases h), vals_0 l⟩
theorem Vals.at {S : Nat → Bool} {F : Fr} : ∀ {l : List (Nat × Nat × Value)} (k : Nat) {i d : Nat} {v : Value}, Vals S F l → l[k]? = some (i, d, v) → S i = true → F d = v
  | [], _, _, _, _, _, h, _ => by simp at h
  | _ :: _, 0, _, _, _, hv, h, hs => by
    simp at h
    subst h
    exact hv.1 hs
  | _ :: _, k + 1, _, _, _, hv, h, hs => Vals.at k hv.2 (by simpa using h) hs
theorem vbeq {a b : Nat} (h : (!Nat.beq a b) = true) : ¬ a = b := fun e => by
  subst e
  rw [Nat.beq_refl] at h
  cases h
theorem Vals.keep {S : Nat → Bool} {F : Fr} {i d : Nat} {v : Value} : ∀ {l : List (Nat × Nat × Value)}, Vals S F l → vnew i d l = true → Vals (fun j => j == i || S j) (up F d v) l
  | [], _, _ => trivial
  | x :: _, hv, h => by
    unfold vnew at h
    rw [Bool.and_eq_true, Bool.and_eq_true] at h
    refine ⟨fun hs => ?_, Vals.keep hv.2 h.2⟩
    rw [up_eq, if_neg (vbeq h.1.2)]
    simp only [beq_iff_eq, Bool.or_eq_true] at hs
    exact hv.1 (hs.resolve_left (vbeq h.1.1))
theorem Vals.keep0 {S : Nat → Bool} {F : Fr} {i : Nat} : ∀ {l : List (Nat × Nat × Value)}, Vals S F l → vnew0 i l = true → Vals (fun j => j == i || S j) F l
  | [], _, _ => trivial
  | x :: _, hv, h => by
    unfold vnew0 at h
    rw [Bool.and_eq_true] at h
    refine ⟨fun hs => ?_, Vals.keep0 hv.2 h.2⟩
    simp only [beq_iff_eq, Bool.or_eq_true] at hs
    exact hv.1 (hs.resolve_left (vbeq h.1))
theorem Vals.up {S : Nat → Bool} {F : Fr} {i d : Nat} {u v : Value} : ∀ {l : List (Nat × Nat × Value)} (k : Nat), Vals S F l → l[k]? = some (i, d, v) → vold i d k l = true → Go.Dw.up F d u d = v → Vals (fun j => j == i || S j) (Go.Dw.up F d u) l
  | [], _, _, h, _, _ => by simp at h
  | x :: _, 0, hv, h1, h2, h3 => by
    simp at h1
    subst h1
    exact ⟨fun _ => h3, Vals.keep hv.2 h2⟩
  | x :: _, k + 1, hv, h1, h, h3 => by
    unfold vold at h
    rw [Bool.and_eq_true, Bool.and_eq_true] at h
    refine ⟨fun hs => ?_, Vals.up k hv.2 (by simpa using h1) h.2 h3⟩
    rw [up_eq, if_neg (vbeq h.1.2)]
    simp only [beq_iff_eq, Bool.or_eq_true] at hs
    exact hv.1 (hs.resolve_left (vbeq h.1.1))
theorem yl {P : Program} {n : Nat} {ops : Array Oper} {Inv : World → Prop} {F : Fr} {o : Oper} {l : List Oper} {d : Nat} {v : Value} {r : List (Nat × Value)} (hd : o.dst = some d)
    (h : ∀ w, Inv w → WpO P n ops (fun f' w' => f' = up F d v ∧ Inv w') [] (up F d v) w → WpO P n ops (fun f' w' => f' = up F d v ∧ Inv w') [o] F w) (t : YlL P n ops Inv F l r) : YlL P n ops Inv F (o :: l) ((d, v) :: r) :=
  yll_cons hd (fun w hi => h w hi (wpo_nil ⟨rfl, hi⟩)) t
end Go.Dw
end
section
namespace Go.Dw
set_option linter.unusedSimpArgs false
set_option linter.unusedVariables false
open Go.RowKit
def Wide {α : Type} (g : α → List Value) (sz : Nat) : Prop := ∀ a, (g a).length = sz
theorem wide_rt : Wide Rt.cells 5 := fun _ => rfl
theorem wide_int : Wide icell 1 := fun _ => rfl
theorem wide_mth : Wide MTh.cells 8 := fun _ => rfl
theorem onec_rt : ∀ q : Rt, ∀ u ∈ q.cells, u.oneCell' = true := fun q u hu => by simp [Rt.cells] at hu; rcases hu with rfl | rfl | rfl | rfl | rfl <;> rfl
theorem onec_int : ∀ q : Int, ∀ u ∈ icell q, u.oneCell' = true := fun q u hu => by simp [icell] at hu; subst hu; rfl
theorem onec_mth : ∀ q : MTh, ∀ u ∈ q.cells, u.oneCell' = true := fun q u hu => by simp [MTh.cells] at hu; rcases hu with rfl | rfl | rfl | rfl | rfl | rfl | rfl | rfl <;> rfl
section
variable {α : Type} {g : α → List Value} {sz : Nat}
theorem rows_len (hg : Wide g sz) : ∀ ys : List α, (ys.flatMap g).length = ys.length * sz
  | [] => by simp
  | y :: ys => by
    simp only [List.flatMap_cons, List.length_append, rows_len hg ys, List.length_cons, hg y, Nat.add_mul]
    omega
theorem rows_drop (hg : Wide g sz) : ∀ (ys : List α) (k : Nat), (ys.flatMap g).drop (k * sz) = (ys.drop k).flatMap g
  | ys, 0 => by simp
  | [], k + 1 => by simp
  | y :: ys, k + 1 => by
    rw [List.flatMap_cons, List.drop_append, List.drop_eq_nil_of_le (by rw [hg y, Nat.add_mul]; omega), hg y, List.nil_append, show (k + 1) * sz - sz = k * sz by rw [Nat.add_mul]; omega, rows_drop hg ys k]
    rfl
theorem rows_take (hg : Wide g sz) : ∀ (ys : List α) (k : Nat), (ys.flatMap g).take (k * sz) = (ys.take k).flatMap g
  | ys, 0 => by simp
  | [], k + 1 => by simp
  | y :: ys, k + 1 => by
    rw [List.flatMap_cons, List.take_append, List.take_of_length_le (by rw [hg y, Nat.add_mul]; omega), hg y, show (k + 1) * sz - sz = k * sz by rw [Nat.add_mul]; omega, rows_take hg ys k]
    rfl
theorem drop_split {ys : List α} {k : Nat} {x : α} (hk : ys[k]? = some x) : ys.drop k = x :: ys.drop (k + 1) := by
  obtain ⟨hl, rfl⟩ := List.getElem?_eq_some_iff.1 hk
  exact List.drop_eq_getElem_cons hl
theorem rows_get (hg : Wide g sz) {ys : List α} {k : Nat} {x : α} (hk : ys[k]? = some x) {j : Nat} {v : Value} (hj : (g x)[j]? = some v) : (ys.flatMap g)[k * sz + j]? = some v := by
  have h := congrArg (fun l : List Value => l[j]?) (rows_drop hg ys k)
  simp only [List.getElem?_drop] at h
  rw [h, drop_split hk, List.flatMap_cons, List.getElem?_append_left (List.getElem?_eq_some_iff.1 hj).1, hj]
theorem rows_setA (hg : Wide g sz) {ys : List α} {k : Nat} (hk : k < ys.length) (x : α) :
    ((ys.flatMap g).toArray.toList.take (k * sz) ++ g x ++ (ys.flatMap g).toArray.toList.drop (k * sz + sz)).toArray = ((ys.set k x).flatMap g).toArray := by
  have e : k * sz + sz = (k + 1) * sz := by rw [Nat.add_mul]; omega
  rw [e, rows_take hg, rows_drop hg, List.set_eq_take_append_cons_drop, if_pos hk]
  simp [List.flatMap_append]
theorem set_row (x : List Value) (l : List Value) (j : Nat) (v : Value) (hj : j < x.length) : (x ++ l).set j v = x.set j v ++ l := by
  rw [List.set_append_left _ _ hj]
theorem rows_set1 (hg : Wide g sz) {ys : List α} {k : Nat} {x : α} (hk : ys[k]? = some x) (x' : α) {j : Nat} {v : Value} (hj : j < sz) (hv : (g x).set j v = g x') :
    (ys.flatMap g).toArray.setIfInBounds (k * sz + j) v = ((ys.set k x').flatMap g).toArray := by
  have hl := (List.getElem?_eq_some_iff.1 hk).1
  have e : (ys.flatMap g) = (ys.take k).flatMap g ++ (g x ++ (ys.drop (k + 1)).flatMap g) := by
    conv => lhs; rw [← List.take_append_drop k ys, List.flatMap_append, drop_split hk, List.flatMap_cons]
  have hlen : ((ys.take k).flatMap g).length = k * sz := by rw [rows_len hg, List.length_take, Nat.min_eq_left (Nat.le_of_lt hl)]
  rw [List.setIfInBounds_toArray]
  refine congrArg List.toArray ?_
  rw [e, List.set_append_right _ _ (by omega), hlen, show k * sz + j - k * sz = j by omega, set_row _ _ _ _ (by rw [hg]; exact hj), hv, List.set_eq_take_append_cons_drop, if_pos hl, List.flatMap_append, List.flatMap_cons]
theorem rows_le (hg : Wide g sz) {ys : List α} {k : Nat} (hk : k < ys.length) : k * sz + sz ≤ (ys.flatMap g).toArray.size := by
  rw [List.size_toArray, rows_len hg]
  have : (k + 1) * sz ≤ ys.length * sz := Nat.mul_le_mul_right _ hk
  rwa [Nat.add_mul, Nat.one_mul] at this
theorem rows_lt (hg : Wide g sz) {ys : List α} {k : Nat} (hk : k < ys.length) {j : Nat} (hj : j < sz) : k * sz + j < (ys.flatMap g).toArray.size := by
  have := rows_le hg hk
  omega
theorem get_set {α : Type} {L : List α} {k : Nat} {x y : α} (h : L[k]? = some x) : (L.set k y)[k]? = some y := by
  rw [List.getElem?_set_self (List.getElem?_eq_some_iff.1 h).1]
theorem rows_lt1 (hg : Wide g sz) {L : List α} {k : Nat} {x : α} (hx : L[k]? = some x) {j : Nat} (hj : j < sz) : k * sz + j < (L.flatMap g).toArray.size := rows_lt hg (List.getElem?_eq_some_iff.1 hx).1 hj
theorem rows_range (hg : Wide g sz) {ys : List α} {w : World} {B : Nat} {T : TypeId} (h : Blk w B T (ys.flatMap g).toArray) {k : Nat} {x : α} (hk : ys[k]? = some x) : w.rangeAt B (k * sz) (g x) :=
  h.range fun j v hj => by
    rw [List.getElem?_toArray]
    exact rows_get hg hk hj
theorem rows_sl (hg : Wide g sz) {ys : List α} {w : World} {B : Nat} {T : TypeId} (h : Blk w B T (ys.flatMap g).toArray) : SlAt w (some ⟨B, 0, none⟩) sz (ys.map g) := fun k x hk => by
  rw [List.getElem?_map] at hk
  cases hy : ys[k]? with
  | none => rw [hy] at hk; simp at hk
  | some y =>
    rw [hy] at hk
    obtain rfl : g y = x := by simpa using hk
    exact ⟨B, 0, rfl, by rw [Nat.zero_add]; exact rows_range hg h hy⟩
def fill (xs : List α) (z : α) (k : Nat) : List α := xs.take k ++ List.replicate (xs.length - k) z
theorem fill_zero (xs : List α) (z : α) : fill xs z 0 = List.replicate xs.length z := by simp [fill]
theorem fill_len {xs : List α} {z : α} {k : Nat} (hk : k ≤ xs.length) : (fill xs z k).length = xs.length := by
  simp [fill]
  omega
theorem fill_set {xs : List α} {z : α} {k : Nat} {x : α} (hx : xs[k]? = some x) : (fill xs z k).set k x = fill xs z (k + 1) := by
  have hl := (List.getElem?_eq_some_iff.1 hx).1
  unfold fill
  rw [List.set_append_right _ _ (by simp; omega), List.length_take, Nat.min_eq_left (by omega), Nat.sub_self, List.take_add_one, hx]
  rw [show xs.length - k = (xs.length - (k + 1)) + 1 by omega, List.replicate_succ]
  simp
theorem fill_all {xs : List α} {z : α} {k : Nat} (hk : xs.length ≤ k) : fill xs z k = xs := by
  unfold fill
  rw [List.take_of_length_le hk, Nat.sub_eq_zero_of_le hk]
  simp
theorem made_rows {z : α} (hg : Wide g sz) (h0 : 0 < sz) : ∀ c : Nat, madeCells (g z).toArray (c * sz) = ((List.replicate c z).flatMap g).toArray := fun c => by
  apply Array.ext'
  refine List.ext_getElem? fun i => ?_
  have hl : ((List.replicate c z).flatMap g).length = c * sz := by rw [rows_len hg, List.length_replicate]
  by_cases hi : i < c * sz
  · have hd : i = (i / sz) * sz + i % sz := by rw [Nat.mul_comm]; exact (Nat.div_add_mod i sz).symm
    have hm : i % sz < sz := Nat.mod_lt _ h0
    have hq : i / sz < c := (Nat.div_lt_iff_lt_mul h0).2 hi
    have h1 : (List.replicate c z)[i / sz]? = some z := by simp [hq]
    have h2 : (g z)[i % sz]? = some ((g z)[i % sz]'(by rw [hg z]; exact hm)) := List.getElem?_eq_getElem (by rw [hg z]; exact hm)
    have h3 := rows_get hg h1 h2
    rw [← hd] at h3
    simp only [List.toList_toArray]
    rw [h3]
    simp only [madeCells, Array.toList_map, Array.toList_range, List.getElem?_map, List.getElem?_range hi, Option.map_some, List.size_toArray, hg z]
    rw [getElem!_def, List.getElem?_toArray, h2]
  · rw [List.getElem?_eq_none (by simp [madeCells]; omega), List.getElem?_eq_none (by simp only [List.toList_toArray]; omega)]
end
def mkTy (P : Program) (t : TypeId) : Option (TypeId × Nat × Nat × Option Value) :=
  match P.underlying t with
  | some (.slice e) => (P.info? e).map fun i => (e, i.size, i.bytes, i.zero)
  | _ => none
section
variable {P : Program} {n : Nat} {ops : Array Oper} {K : Fr → World → Prop} {l : List Oper} {f : Fr} {w : World} {ty : TypeId} {pos : String} {aft : Array Edge} {d : Nat}
theorem wpo_make {α : Type} {g : α → List Value} {z : α} {t e sz bytes c : Nat} {v : Value} {x y : Operand} (ht : mkTy P t = some (e, sz, bytes, some v)) (hv : v.cells = (g z).toArray) (hg : Wide g sz) (h0 : 0 < sz)
    (hx : ev f x = .int .i64 (c : Int)) (hy : ev f y = .int .i64 (c : Int)) (hb : bytes * c ≤ 281474976710656) (h63 : c ≤ 9223372036854775807) (hd : Nat.blt d n = true)
    (h : ∀ B w', NewB w w' B e ((List.replicate c z).flatMap g).toArray → WpO P n ops K l (up f d (.slice (some ⟨B, 0, none⟩) c c)) w') : WpO P n ops K (⟨some d, .makeSlice t x y, ty, pos, aft, none⟩ :: l) f w := by
  unfold mkTy at ht
  split at ht
  · rename_i el hu
    cases hq : P.info? el with
    | none => rw [hq] at ht; cases ht
    | some i =>
      rw [hq] at ht
      simp only [Option.map_some, Option.some.injEq, Prod.mk.injEq] at ht
      obtain ⟨rfl, rfl, rfl, hz⟩ := ht
      have hr := run_make (P := P) w t el i v hu hq hz .i64 .i64 (c : Int) (c : Int) (by omega) (Int.le_refl _) (by omega) (by omega)
      rw [hv, Int.toNat_natCast, made_rows hg h0] at hr
      exact wpo_val rfl hd (by simp only [execOp, hx, hy, Sem.run_bind, hr, Result.andThen_ok]; rfl) (h _ _ (newB_alloc w el _))
  · cases ht
end
def SlLt (lo : Nat) (w : World) (a : Option Addr) (sz : Nat) (xs : List (List Value)) : Prop := ∀ k x, xs[k]? = some x → ∃ b o, a = some ⟨b, o, none⟩ ∧ b < lo ∧ w.rangeAt b (o + k * sz) x
theorem SlLt.sl {lo : Nat} {w : World} {a : Option Addr} {sz : Nat} {xs : List (List Value)} (h : SlLt lo w a sz xs) : SlAt w a sz xs := fun k x hk => by
  obtain ⟨b, o, ha, _, hr⟩ := h k x hk
  exact ⟨b, o, ha, hr⟩
theorem SlLt.low0 {lo : Nat} {w w' : World} {a : Option Addr} {sz : Nat} {xs : List (List Value)} (h : SlLt lo w a sz xs) (hg : w.grownBy w' none) : SlLt lo w' a sz xs := fun k x hk => by
  obtain ⟨b, o, ha, hb, hx⟩ := h k x hk
  exact ⟨b, o, ha, hb, range_grown hx hg (by simp)⟩
theorem SlLt.low1 {lo : Nat} {w w' : World} {a : Option Addr} {sz : Nat} {xs : List (List Value)} (h : SlLt lo w a sz xs) {c : Nat} (hg : w.grownBy w' (some c)) (hc : lo ≤ c) : SlLt lo w' a sz xs := fun k x hk => by
  obtain ⟨b, o, ha, hb, hx⟩ := h k x hk
  exact ⟨b, o, ha, hb, range_grown hx hg (some_ne (by omega))⟩
theorem SlLt.at {lo : Nat} {w : World} {a : Option Addr} {sz k : Nat} {xs : List (List Value)} {x : List Value} (h : SlLt lo w a sz xs) (hk : xs[k]? = some x) : ∃ b q o, a = some ⟨b, q, none⟩ ∧ q + k * sz = o ∧ b < lo ∧ w.rangeAt b o x := by
  obtain ⟨b, o, ha, hb, hr⟩ := h k x hk
  exact ⟨b, o, _, ha, rfl, hb, hr⟩
theorem SlLt.take {α : Type} {g : α → List Value} {lo : Nat} {w : World} {a : Option Addr} {sz : Nat} {xs : List α} (h : SlLt lo w a sz (xs.map g)) (m : Nat) : SlLt lo w a sz ((xs.take m).map g) := fun k x hk => by
  refine h k x ?_
  rw [List.getElem?_map, List.getElem?_take] at hk
  rw [List.getElem?_map]
  split at hk
  · exact hk
  · simp at hk
theorem SlAt.lt {α : Type} {g : α → List Value} {w : World} {a : Option Addr} {sz : Nat} {xs : List α} (hg : Wide g sz) (h0 : 0 < sz) (h : SlAt w a sz (xs.map g)) : SlLt w.heap.size w a sz (xs.map g) := fun k x hk => by
  obtain ⟨b, o, ha, hr⟩ := h k x hk
  refine ⟨b, o, ha, ?_, hr⟩
  rw [List.getElem?_map] at hk
  cases hy : xs[k]? with
  | none => rw [hy] at hk; simp at hk
  | some y =>
    rw [hy] at hk
    obtain rfl : g y = x := by simpa using hk
    obtain ⟨v, hv⟩ : ∃ v, (g y)[0]? = some v := ⟨_, List.getElem?_eq_getElem (by rw [hg y]; exact h0)⟩
    exact World.block_lt_of_cell? w _ (hr 0 v hv)
section
variable {P : Program} {n : Nat} {ops : Array Oper} {K : Fr → World → Prop} {l : List Oper} {f : Fr} {w : World} {ty : TypeId} {pos : String} {aft : Array Edge} {d : Nat}
theorem wpo_buildSlice {t len : Nat} {parts : Array (Nat × Operand)} {ps : List (Nat × Value)} {e : TypeId} {cs : Array Value} (hp : parts.toList.map (fun p => (p.1, ev f p.2)) = ps)
    (hb : ∀ w, (Instr.buildSlice t len ps.toArray).run P w = .ok (.slice (some ⟨w.heap.size, 0, none⟩) len len) (w.alloc (.cells cs e))) (hd : Nat.blt d n = true)
    (h : ∀ B w', NewB w w' B e cs → WpO P n ops K l (up f d (.slice (some ⟨B, 0, none⟩) len len)) w') : WpO P n ops K (⟨some d, .buildSlice t len parts, ty, pos, aft, none⟩ :: l) f w :=
  wpo_val rfl hd (by
    have e : (parts.map fun p => (p.1, ev f p.2)) = ps.toArray := by rw [← hp]; apply Array.ext'; simp
    show ((do pure (Next.value (← Instr.buildSlice t len (parts.map fun p => (p.1, ev f p.2)))) : Sem Next)).run P w = _
    rw [e, Sem.run_bind, hb]
    rfl) (h _ _ (newB_alloc w e cs))
end
theorem hN_gtl {a b : World} {B C : Nat} {T : TypeId} {cs : Array Value} (h : NewB a b B T cs) (hk : C < a.heap.size) : C < B := by rw [h.eq]; exact hk
def Own (w : World) (B : Nat) (T : TypeId) (sz cap n : Nat) (vs : List Value) : Prop := w.ownsRow 0 T sz (.slice (some ⟨B, 0, none⟩) n cap) n vs
section
variable {w w' : World} {B : Nat} {T : TypeId} {sz cap n : Nat} {vs : List Value}
theorem Own.lt (h : Own w B T sz cap n vs) : B < w.heap.size := (World.ownsRow.lt h B rfl).2
theorem Own.grown (h : Own w B T sz cap n vs) {r : Option Nat} (hg : w.grownBy w' r) (hne : some B ≠ r) : Own w' B T sz cap n vs := World.ownsRow.kept h hg (Or.inr hne)
theorem Own.gn {r : Nat} (h : Own w B T sz cap n vs) (hg : w.grownBy w' (some r)) (hne : B ≠ r := by omega) : Own w' B T sz cap n vs := h.grown hg (some_ne hne)
theorem Own.grown0 (h : Own w B T sz cap n vs) (hg : w.grownBy w' none) : Own w' B T sz cap n vs := h.grown hg (by simp)
theorem Own.sl {α : Type} {g : α → List Value} (hg : Wide g sz) {ys : List α} (h : Own w B T sz cap n (ys.flatMap g)) : SlAt w (some ⟨B, 0, none⟩) sz (ys.map g) := fun k x hk => by
  rw [List.getElem?_map] at hk
  cases hy : ys[k]? with
  | none => rw [hy] at hk; simp at hk
  | some y =>
    rw [hy] at hk
    obtain rfl : g y = x := by simpa using hk
    refine ⟨B, 0, rfl, fun j v hj => ?_⟩
    have := World.ownsRow.cells h rfl (k * sz + j) v (rows_get hg hy hj)
    have e : (⟨B, 0 + k * sz + j, none⟩ : Addr) = (⟨B, 0, none⟩ : Addr).add (k * sz + j) := by
      simp only [Addr.add]
      split
      · rename_i he; rw [show 0 + k * sz + j = 0 by omega]
      · rw [Nat.add_assoc]
    rw [e]
    exact this
theorem Own.range {α : Type} {g : α → List Value} (hg : Wide g sz) {ys : List α} (h : Own w B T sz cap n (ys.flatMap g)) {k : Nat} {x : α} (hk : ys[k]? = some x) : w.rangeAt B (k * sz) (g x) := by
  obtain ⟨b, o, ha, hr⟩ := Own.sl hg h k _ (map_get hk)
  simp only [Option.some.injEq, Addr.mk.injEq] at ha
  obtain ⟨rfl, rfl, _⟩ := ha
  rwa [Nat.zero_add] at hr
theorem Own.of {cs : Array Value} (h : Blk w B T cs) (hs : cs.size = n * sz) (hm : n ≤ 9223372036854775807) : Own w B T sz n n cs.toList := by
  refine ⟨by simpa using hs, Or.inr ⟨B, n, cs, rfl, Nat.zero_le _, h, Nat.le_refl _, ?_, hs, ?_⟩⟩
  · have : maxLen = 9223372036854775807 := by decide
    omega
  · rw [← hs, ← Array.length_toList, List.take_length]
theorem Own.rows {α : Type} {g : α → List Value} (hg : Wide g sz) {ys : List α} (h : Blk w B T (ys.flatMap g).toArray) (hm : ys.length ≤ 9223372036854775807) : Own w B T sz ys.length ys.length (ys.flatMap g) := by
  have := Own.of (n := ys.length) (sz := sz) h (by rw [List.size_toArray, rows_len hg]) hm
  simpa using this
end
theorem news_of {α : Type} {g : α → List Value} {sz : Nat} (hg : Wide g sz) (h0 : 0 < sz) {w : World} {a : Addr} {zs : List α} (hs : SlAt w (some a) sz (zs.map g)) : ∀ j u, (zs.flatMap g)[j]? = some u → w.cell? (a.add j) = some u := fun j u hj => by
  have hlt : j < zs.length * sz := by rw [← rows_len hg zs]; exact (List.getElem?_eq_some_iff.1 hj).1
  obtain ⟨q, hq2⟩ := get_lt ((Nat.div_lt_iff_lt_mul h0).2 hlt)
  obtain ⟨b, o, ha, hr⟩ := hs _ _ (map_get hq2)
  obtain rfl := Option.some.inj ha
  have hm2 : j % sz < sz := Nat.mod_lt _ h0
  have hd2 : (j / sz) * sz + j % sz = j := by rw [Nat.mul_comm]; exact Nat.div_add_mod j sz
  have h3 := rows_get hg hq2 (j := j % sz) (List.getElem?_eq_getElem (by rw [hg q]; exact hm2))
  rw [hd2, hj] at h3
  have h4 := hr (j % sz) u (by rw [List.getElem?_eq_getElem (by rw [hg q]; exact hm2)]; exact h3.symm)
  have e3 : (⟨b, o, none⟩ : Addr).add j = ⟨b, o + (j / sz) * sz + j % sz, none⟩ := by
    simp only [Addr.add]
    split
    · rename_i he; rw [show o + (j / sz) * sz + j % sz = o by omega]
    · rw [show o + j = o + (j / sz) * sz + j % sz by omega]
  rw [e3]
  exact h4
section
variable {P : Program} {n : Nat} {ops : Array Oper} {K : Fr → World → Prop} {l : List Oper} {f : Fr} {w : World} {ty : TypeId} {pos : String} {aft : Array Edge} {d : Nat}
theorem wpo_append {α : Type} {g : α → List Value} {t e sz bytes cap c : Nat} {z : Value} {x y : Operand} {B : Nat} {ys zs : List α} {a : Addr} (ht : mkTy P t = some (e, sz, bytes, some z)) (hz : z.cells.size = sz) (hg : Wide g sz) (h0 : 0 < sz) (h1c : ∀ q : α, ∀ u ∈ g q, u.oneCell' = true)
    (hx : ev f x = .slice (some ⟨B, 0, none⟩) ys.length cap) (hy : ev f y = .slice (some a) zs.length c) (ho : Own w B e sz cap ys.length (ys.flatMap g)) (hs : SlAt w (some a) sz (zs.map g))
    (hm : ys.length + zs.length ≤ 1099511627776) (hb : bytes ≤ 128) (hd : Nat.blt d n = true)
    (h : ∀ B' cap' w', Own w' B' e sz cap' (ys ++ zs).length ((ys ++ zs).flatMap g) → w.grownBy w' (some B) → (B' = B ∨ B' = w.heap.size) → WpO P n ops K l (up f d (.slice (some ⟨B', 0, none⟩) (ys ++ zs).length cap')) w') :
    WpO P n ops K (⟨some d, .call ⟨.builtin .append, #[x, y], #[t, t]⟩, ty, pos, aft, none⟩ :: l) f w := by
  unfold mkTy at ht
  split at ht
  · rename_i el hu
    cases hq : P.info? el with
    | none => rw [hq] at ht; cases ht
    | some i =>
      rw [hq] at ht
      simp only [Option.map_some, Option.some.injEq, Prod.mk.injEq] at ht
      obtain ⟨rfl, rfl, rfl, hzz⟩ := ht
      have hmx : maxLen = 9223372036854775807 := by decide
      have hnews := news_of hg h0 hs
      obtain ⟨v', w', hr, ho', hgr, hnil, hob⟩ := run_append_own_at (P := P) w 0 t ty el i z i.size i.bytes hu hq hzz rfl rfl hz h0 _ _ _ ho a zs.length c (zs.flatMap g) (rows_len hg zs) hnews
        (fun u hu => by obtain ⟨q, _, hq⟩ := List.mem_flatMap.1 hu; exact h1c q u hq) (by omega) (by
          have : (ys.length + zs.length) * i.bytes ≤ 1099511627776 * 128 := Nat.mul_le_mul hm hb
          omega) (Nat.zero_le _)
      have hv' : v' ≠ .slice none 0 0 := fun e => by
        have := (hnil.1 e).1
        cases this
      rcases ho'.2 with ⟨hn, _⟩ | ⟨B', cap', cur, rfl, hrest⟩
      · exact absurd hn hv'
      · have e1 : (ys ++ zs).length = ys.length + zs.length := List.length_append
        have e2 : (ys ++ zs).flatMap g = ys.flatMap g ++ zs.flatMap g := List.flatMap_append
        refine wpo_val rfl hd (v := .slice (some ⟨B', 0, none⟩) (ys ++ zs).length cap') (w' := w') (by simp [execOp, resolve, invoke, builtin, hx, hy, hr, e1]) (h B' cap' w' ?_ hgr ?_)
        · unfold Own; rw [e1, e2]; exact ho'
        · rcases hob with h' | h'
          · exact Or.inl (Option.some.inj h')
          · exact Or.inr (Option.some.inj h')
  · cases ht
end
def OwnN (lo : Nat) (w : World) (a : Option Addr) (T : TypeId) (sz cap n : Nat) (vs : List Value) : Prop := w.ownsRow lo T sz (.slice a n cap) n vs
section
variable {lo : Nat} {w w' : World} {a : Option Addr} {T : TypeId} {sz cap n : Nat} {vs : List Value}
theorem OwnN.nil : OwnN lo w none T sz 0 0 [] := ⟨by simp, Or.inl ⟨rfl, rfl⟩⟩
theorem OwnN.isnil (h : OwnN lo w none T sz cap n vs) : cap = 0 ∧ n = 0 ∧ vs = [] := by
  rcases h.2 with ⟨h1, h2⟩ | ⟨g, cap', cur, h1, _⟩
  · simp only [Value.slice.injEq] at h1
    refine ⟨h1.2.2, h2, ?_⟩
    have := h.1
    rw [h2, Nat.zero_mul] at this
    exact List.eq_nil_of_length_eq_zero this
  · simp at h1
theorem OwnN.own {B : Nat} (h : OwnN lo w (some ⟨B, 0, none⟩) T sz cap n vs) : Own w B T sz cap n vs ∧ lo ≤ B := by
  rcases h.2 with ⟨h1, _⟩ | ⟨g, cap', cur, h1, h2, h3⟩
  · simp at h1
  · simp only [Value.slice.injEq, Option.some.injEq, Addr.mk.injEq, and_true, true_and] at h1
    obtain ⟨rfl, rfl⟩ := h1
    exact ⟨⟨h.1, Or.inr ⟨_, _, cur, rfl, Nat.zero_le _, h3⟩⟩, h2⟩
theorem OwnN.of {B : Nat} (h : Own w B T sz cap n vs) (hl : lo ≤ B) : OwnN lo w (some ⟨B, 0, none⟩) T sz cap n vs := by
  rcases h.2 with ⟨h1, _⟩ | ⟨g, cap', cur, h1, h2, h3⟩
  · simp at h1
  · simp only [Value.slice.injEq, Option.some.injEq, Addr.mk.injEq, and_true, true_and] at h1
    obtain ⟨rfl, rfl⟩ := h1
    exact ⟨h.1, Or.inr ⟨_, _, cur, rfl, hl, h3⟩⟩
theorem OwnN.form (h : OwnN lo w a T sz cap n vs) : (a = .none ∧ n = 0 ∧ cap = 0 ∧ vs = []) ∨ ∃ B, a = some ⟨B, 0, .none⟩ ∧ lo ≤ B ∧ B < w.heap.size ∧ Own w B T sz cap n vs := by
  rcases h.2 with ⟨h1, h2⟩ | ⟨g, cap', cur, h1, h2, h3⟩
  · simp only [Value.slice.injEq] at h1
    obtain ⟨rfl, h4, h5⟩ := h1
    exact Or.inl ⟨rfl, h2, h5, (OwnN.isnil h).2.2⟩
  · simp only [Value.slice.injEq, true_and] at h1
    obtain ⟨rfl, rfl⟩ := h1
    have ho := OwnN.own h
    exact Or.inr ⟨g, rfl, h2, ho.1.lt, ho.1⟩
theorem OwnN.some_ (h : OwnN lo w a T sz cap n vs) (hn : 0 < n) : ∃ B, a = some ⟨B, 0, .none⟩ ∧ lo ≤ B ∧ Own w B T sz cap n vs := by
  rcases h.form with ⟨_, h2, _⟩ | ⟨B, h1, h2, _, h3⟩
  · omega
  · exact ⟨B, h1, h2, h3⟩
theorem OwnN.grown {r : Option Nat} (h : OwnN lo w a T sz cap n vs) (hg : w.grownBy w' r) (hne : ∀ B, a = some ⟨B, 0, .none⟩ → some B ≠ r) : OwnN lo w' a T sz cap n vs := by
  rcases h.form with ⟨rfl, rfl, rfl, rfl⟩ | ⟨B, rfl, h2, _, h3⟩
  · exact OwnN.nil
  · exact OwnN.of (h3.grown hg (hne B rfl)) h2
theorem OwnN.grown0 (h : OwnN lo w a T sz cap n vs) (hg : w.grownBy w' .none) : OwnN lo w' a T sz cap n vs := h.grown hg (by simp)
theorem OwnN.grown_lt {b : Nat} (h : OwnN lo w a T sz cap n vs) (hg : w.grownBy w' (some b)) (hb : b < lo) : OwnN lo w' a T sz cap n vs := by
  rcases h.form with ⟨rfl, rfl, rfl, rfl⟩ | ⟨B, rfl, h2, _, h3⟩
  · exact OwnN.nil
  · exact OwnN.of (h3.grown hg (some_ne (by omega))) h2
theorem OwnN.mono {lo' : Nat} (h : OwnN lo w a T sz cap n vs) (hl : lo' ≤ lo) : OwnN lo' w a T sz cap n vs := by
  rcases h.form with ⟨rfl, rfl, rfl, rfl⟩ | ⟨B, rfl, h2, _, h3⟩
  · exact OwnN.nil
  · exact OwnN.of h3 (Nat.le_trans hl h2)
theorem OwnN.sl {α : Type} {g : α → List Value} (hg : Wide g sz) (h0 : 0 < sz) {ys : List α} (h : OwnN lo w a T sz cap n (ys.flatMap g)) : SlAt w a sz (ys.map g) := by
  rcases h.form with ⟨rfl, rfl, rfl, hn⟩ | ⟨B, rfl, h2, _, h3⟩
  · have hl := rows_len hg ys
    rw [hn] at hl
    have : ys.length = 0 := by
      rcases Nat.eq_zero_or_pos ys.length with h5 | h5
      · exact h5
      · have h6 := Nat.mul_pos h5 h0
        simp at hl
        omega
    rw [List.eq_nil_of_length_eq_zero this]
    exact fun k x hk => by simp at hk
  · exact Own.sl hg h3
theorem OwnN.cap0 (h : OwnN lo w a T sz cap n vs) (ha : a = .none) : cap = 0 := by
  subst ha
  exact h.isnil.1
end
section
variable {P : Program} {n : Nat} {ops : Array Oper} {K : Fr → World → Prop} {l : List Oper} {f : Fr} {w : World} {ty : TypeId} {pos : String} {aft : Array Edge} {d : Nat}
theorem wpo_appendN {α : Type} {g : α → List Value} {lo t e sz bytes cap c : Nat} {z : Value} {x y : Operand} {ax ay : Option Addr} {ys zs : List α} (ht : mkTy P t = some (e, sz, bytes, some z)) (hz : z.cells.size = sz) (hg : Wide g sz) (h0 : 0 < sz) (h1c : ∀ q : α, ∀ u ∈ g q, u.oneCell' = true)
    (hx : ev f x = .slice ax ys.length cap) (hy : ev f y = .slice ay zs.length c) (ho : OwnN lo w ax e sz cap ys.length (ys.flatMap g)) (hs : SlAt w ay sz (zs.map g)) (hc : ay = none → c = 0)
    (hm : ys.length + zs.length ≤ 1099511627776) (hb : bytes ≤ 128) (hlo : lo ≤ w.heap.size) (hd : Nat.blt d n = true)
    (h : ∀ a' cap' w', OwnN lo w' a' e sz cap' (ys ++ zs).length ((ys ++ zs).flatMap g) → w.grownBy w' (ax.map (·.block)) → (a'.map (·.block) = ax.map (·.block) ∨ a'.map (·.block) = some w.heap.size) → WpO P n ops K l (up f d (.slice a' (ys ++ zs).length cap')) w') :
    WpO P n ops K (⟨some d, .call ⟨.builtin .append, #[x, y], #[t, t]⟩, ty, pos, aft, none⟩ :: l) f w := by
  unfold mkTy at ht
  split at ht
  · rename_i el hu
    cases hq : P.info? el with
    | none => rw [hq] at ht; cases ht
    | some i =>
      rw [hq] at ht
      simp only [Option.map_some, Option.some.injEq, Prod.mk.injEq] at ht
      obtain ⟨rfl, rfl, rfl, hzz⟩ := ht
      have hmx : maxLen = 9223372036854775807 := by decide
      have e1 : (ys ++ zs).length = ys.length + zs.length := List.length_append
      have e2 : (ys ++ zs).flatMap g = ys.flatMap g ++ zs.flatMap g := List.flatMap_append
      have hob0 : ∀ (aa : Option Addr) m c, (Value.slice aa m c).ownBlock = aa.map (·.block) := fun aa m c => by cases aa <;> rfl
      cases ay with
      | none =>
        have hzs : zs = [] := by
          cases zs with
          | nil => rfl
          | cons q zs =>
            obtain ⟨b, o, ha, _⟩ := hs 0 (g q) rfl
            cases ha
        subst hzs
        have hr := run_append_owned_none (P := P) w lo t ty el i i.size hu hq _ _ _ ho
        refine wpo_val rfl hd (v := .slice ax ys.length cap) (w' := w) (by simp [execOp, resolve, invoke, builtin, hx, hy, hc rfl, hr]) ?_
        have h9 := h ax cap w
        rw [List.append_nil] at h9
        exact h9 ho (World.grownBy.refl _ _) (Or.inl rfl)
      | some a =>
        obtain ⟨v', w', hr, ho', hgr, hnil, hob⟩ := run_append_own_at (P := P) w lo t ty el i z i.size i.bytes hu hq hzz rfl rfl hz h0 _ _ _ ho a zs.length c (zs.flatMap g) (rows_len hg zs) (news_of hg h0 hs)
          (fun u hu => by obtain ⟨q, _, hq⟩ := List.mem_flatMap.1 hu; exact h1c q u hq) (by omega) (by
            have : (ys.length + zs.length) * i.bytes ≤ 1099511627776 * 128 := Nat.mul_le_mul hm hb
            omega) hlo
        have hshape : ∃ a' cap', v' = .slice a' (ys ++ zs).length cap' := by
          rcases ho'.2 with ⟨h1, h2⟩ | ⟨g', cp, cu, h1, _⟩
          · exact ⟨none, 0, by rw [h1, e1, h2]⟩
          · exact ⟨_, cp, by rw [h1, e1]⟩
        obtain ⟨a', cap', rfl⟩ := hshape
        refine wpo_val rfl hd (v := .slice a' (ys ++ zs).length cap') (w' := w') (by simp [execOp, resolve, invoke, builtin, hx, hy, hr]) (h a' cap' w' ?_ ?_ ?_)
        · unfold OwnN; rw [e2]; rw [← e1] at ho'; exact ho'
        · rw [hob0] at hgr; exact hgr
        · rw [hob0, hob0] at hob; exact hob
  · cases ht
end
theorem Own.blk {w : World} {B : Nat} {T : TypeId} {sz cap n : Nat} {vs : List Value} (h : Own w B T sz cap n vs) : vs.length = n * sz ∧ ∃ cur : Array Value, Blk w B T cur ∧ n ≤ cap ∧ cap ≤ maxLen ∧ cur.size = cap * sz ∧ cur.toList.take (n * sz) = vs := by
  refine ⟨h.1, ?_⟩
  rcases h.2 with ⟨h1, _⟩ | ⟨g, cap', cur, h1, _, h3, h4⟩
  · simp at h1
  · simp only [Value.slice.injEq, Option.some.injEq, Addr.mk.injEq, and_true, true_and] at h1
    obtain ⟨rfl, rfl⟩ := h1
    exact ⟨cur, h3, h4⟩
theorem Own.ofBlk {w : World} {B : Nat} {T : TypeId} {sz cap n : Nat} {vs : List Value} {cur : Array Value} (hl : vs.length = n * sz) (hb : Blk w B T cur) (h1 : n ≤ cap) (h2 : cap ≤ maxLen) (h3 : cur.size = cap * sz) (h4 : cur.toList.take (n * sz) = vs) : Own w B T sz cap n vs :=
  ⟨hl, Or.inr ⟨B, cap, cur, rfl, Nat.zero_le _, hb, h1, h2, h3, h4⟩⟩
theorem Own.set2 {α : Type} {g : α → List Value} {w : World} {B : Nat} {T : TypeId} {sz cap k : Nat} {L : List α} {x y : α} (h : Own w B T sz cap ((L.set k x).set k y).length (((L.set k x).set k y).flatMap g)) : Own w B T sz cap (L.set k y).length ((L.set k y).flatMap g) := by
  rwa [List.set_set] at h
theorem take_put {cur vs : List Value} {o m : Nat} {us : List Value} (h : cur.take m = vs) (hm : m ≤ cur.length) (ho : o + us.length ≤ m) : (cur.take o ++ us ++ cur.drop (o + us.length)).take m = vs.take o ++ us ++ vs.drop (o + us.length) := by
  subst h
  have e1 : (cur.take o).length = o := by rw [List.length_take]; omega
  have e2 : (cur.take m).take o = cur.take o := by rw [List.take_take, Nat.min_eq_left (by omega)]
  have e3 : (cur.take m).drop (o + us.length) = (cur.drop (o + us.length)).take (m - (o + us.length)) := List.drop_take ..
  rw [e2, e3, List.take_append, List.take_of_length_le (l := cur.take o ++ us) (by rw [List.length_append, e1]; exact ho), List.length_append, e1]
section
variable {P : Program} {n : Nat} {ops : Array Oper} {K : Fr → World → Prop} {l : List Oper} {f : Fr} {w : World} {ty : TypeId} {pos : String} {aft : Array Edge} {d : Nat}
theorem wpo_store1O {α : Type} {g : α → List Value} {t b o sz cap k j : Nat} {T : TypeId} {x y : Operand} {v : Value} {ys : List α} {z z' : α} (ht : oneTy P t = true) (hx : ev f x = .pointer (some ⟨b, o, none⟩)) (hy : ev f y = v) (h1 : v.oneCell' = true)
    (hg : Wide g sz) (ho : Own w b T sz cap ys.length (ys.flatMap g)) (hk : ys[k]? = some z) (hj : j < sz) (e : o = k * sz + j) (hv : (g z).set j v = g z')
    (h : ∀ w', Own w' b T sz cap (ys.set k z').length ((ys.set k z').flatMap g) → w.grownBy w' (some b) → WpO P n ops K l f w') : WpO P n ops K (⟨none, .store t x y, ty, pos, aft, none⟩ :: l) f w := by
  obtain ⟨hl, cur, hb, h2, h3, h4, h5⟩ := ho.blk
  have hlt : k * sz + j < ys.length * sz := by
    have := rows_lt1 hg hk hj
    rwa [List.size_toArray, rows_len hg] at this
  have hcap : ys.length * sz ≤ cap * sz := Nat.mul_le_mul_right _ h2
  subst e
  have hin : k * sz + j < cur.size := by rw [h4]; exact Nat.lt_of_lt_of_le hlt hcap
  refine wpo_unit (w' := w.setRow b (cur.setIfInBounds (k * sz + j) v)) rfl rfl (by simp [execOp, hx, hy, run_store1 ht h1 hb hin]) (h _ (Own.ofBlk ?_ (setB_setRow hb _).blk (by rw [List.length_set]; exact h2) h3 (by rw [Array.size_setIfInBounds]; exact h4) ?_) (setB_setRow hb _).grw)
  · rw [rows_len hg]
  · have hset := congrArg Array.toList (rows_set1 hg hk z' hj hv)
    rw [List.length_set, Array.toList_setIfInBounds, List.take_set, h5]
    simpa using hset
theorem wpo_storenO {α : Type} {g : α → List Value} {t b o sz cap k : Nat} {T : TypeId} {x y : Operand} {ys : List α} {z' : α} (ht : rowTy P t = some sz) (hx : ev f x = .pointer (some ⟨b, o, none⟩)) (hy : ev f y = .agg (g z').toArray) (h1 : ∀ v ∈ g z', v.oneCell' = true)
    (hg : Wide g sz) (ho : Own w b T sz cap ys.length (ys.flatMap g)) (hk : k < ys.length) (e : o = k * sz)
    (h : ∀ w', Own w' b T sz cap (ys.set k z').length ((ys.set k z').flatMap g) → w.grownBy w' (some b) → WpO P n ops K l f w') : WpO P n ops K (⟨none, .store t x y, ty, pos, aft, none⟩ :: l) f w := by
  obtain ⟨hl, cur, hb, h2, h3, h4, h5⟩ := ho.blk
  have hlt : k * sz + sz ≤ ys.length * sz := by
    have := rows_le hg hk
    rwa [List.size_toArray, rows_len hg] at this
  have hcap : ys.length * sz ≤ cap * sz := Nat.mul_le_mul_right _ h2
  subst e
  have hin : k * sz + sz ≤ cur.size := by rw [h4]; exact Nat.le_trans hlt hcap
  have hsz : cur.toList.length = cap * sz := by rw [Array.length_toList]; exact h4
  have hz : (g z').length = sz := hg z'
  refine wpo_unit (w' := w.setRow b (cur.toList.take (k * sz) ++ g z' ++ cur.toList.drop (k * sz + sz)).toArray) rfl rfl (by simp only [execOp, hx, hy, Sem.run_bind, run_storen ht (hg z') h1 hb hin, Result.andThen_ok]; rfl) (h _ (Own.ofBlk ?_ (setB_setRow hb _).blk (by rw [List.length_set]; exact h2) h3 ?_ ?_) (setB_setRow hb _).grw)
  · rw [rows_len hg]
  · rw [List.size_toArray, List.length_append, List.length_append, List.length_take, List.length_drop, hz, hsz, Nat.min_eq_left (by omega)]
    omega
  · have hset := congrArg Array.toList (rows_setA hg hk z')
    have hq := take_put (cur := cur.toList) (us := g z') (o := k * sz) h5 (by rw [hsz]; exact hcap) (by rw [hz]; exact hlt)
    rw [hz] at hq
    rw [List.length_set, hq]
    simpa using hset
end
theorem SlAt.nil {w : World} {a : Option Addr} {sz : Nat} : SlAt w a sz [] := fun k x hk => by simp at hk
def ThAt (w : World) (m : MTh) : Prop := SlAt w m.sa 5 (m.t.slots.map Rt.cells) ∧ SlAt w m.qa 1 (m.t.queue.map icell) ∧ (m.sa = none → m.sc = 0) ∧ (m.qa = none → m.qc = 0)
theorem ThAt.low {w w' : World} {m : MTh} (h : ThAt w m) (hg : w.grownBy w' none) : ThAt w' m := ⟨h.1.low hg, h.2.1.low hg, h.2.2⟩
def TabAt (w : World) (a : Option Addr) (ts : List MTh) : Prop := SlAt w a 8 (ts.map MTh.cells) ∧ ∀ m ∈ ts, ThAt w m
theorem TabAt.low {w w' : World} {a : Option Addr} {ts : List MTh} (h : TabAt w a ts) (hg : w.grownBy w' none) : TabAt w' a ts := ⟨h.1.low hg, fun m hm => (h.2 m hm).low hg⟩
theorem TabAt.th {w : World} {a : Option Addr} {ts : List MTh} (h : TabAt w a ts) {k : Nat} {m : MTh} (hk : ts[k]? = some m) : ThAt w m := h.2 m (List.mem_of_getElem? hk)
def arrTy (P : Program) (t : TypeId) : Option (Nat × TypeId × Nat) :=
  match P.underlying t with
  | some (.array m e) => (P.info? e).map fun i => (m, e, i.size)
  | _ => none
theorem arrTy_spec {P : Program} {t e m sz : Nat} (h : arrTy P t = some (m, e, sz)) : P.underlying t = some (.array m e) ∧ ∃ i, P.info? e = some i ∧ i.size = sz := by
  unfold arrTy at h
  split at h
  · rename_i m' e' hu
    cases hq : P.info? e' with
    | none => rw [hq] at h; cases h
    | some i =>
      rw [hq] at h
      simp only [Option.map_some, Option.some.injEq, Prod.mk.injEq] at h
      obtain ⟨rfl, rfl, rfl⟩ := h
      exact ⟨hu, i, hq, rfl⟩
  · cases h
theorem rows_row {α : Type} {g : α → List Value} {sz : Nat} (hg : Wide g sz) {ys : List α} {k : Nat} {z : α} (hk : ys[k]? = some z) : (ys.flatMap g).toArray.extract (k * sz) (k * sz + sz) = (g z).toArray := by
  apply Array.ext'
  rw [Array.toList_extract, List.extract_eq_take_drop, List.toList_toArray, List.toList_toArray, rows_drop hg, drop_split hk, List.flatMap_cons, Nat.add_sub_cancel_left, List.take_append, hg z, List.take_of_length_le (by rw [hg z]; exact Nat.le_refl _)]
  simp
theorem SlAt.all {α : Type} {g : α → List Value} {w : World} {a : Option Addr} {sz : Nat} (hg : Wide g sz) (h0 : 0 < sz) {ys : List α} (h : SlAt w a sz (ys.map g)) (hne : 0 < ys.length) : ∃ b q, a = some ⟨b, q, none⟩ ∧ w.rangeAt b q (ys.flatMap g) := by
  obtain ⟨y, hy⟩ := get_lt hne
  obtain ⟨b, q, ha, _⟩ := h _ _ (map_get hy)
  refine ⟨b, q, ha, fun j v hj => ?_⟩
  have hlt : j < ys.length * sz := by rw [← rows_len hg ys]; exact (List.getElem?_eq_some_iff.1 hj).1
  obtain ⟨z, hz⟩ := get_lt ((Nat.div_lt_iff_lt_mul h0).2 hlt)
  obtain ⟨b', q', ha', hr⟩ := h _ _ (map_get hz)
  rw [ha] at ha'
  simp only [Option.some.injEq, Addr.mk.injEq] at ha'
  obtain ⟨rfl, rfl, _⟩ := ha'
  have hm : j % sz < sz := Nat.mod_lt _ h0
  have hd : (j / sz) * sz + j % sz = j := by rw [Nat.mul_comm]; exact Nat.div_add_mod j sz
  have h3 := rows_get hg hz (j := j % sz) (List.getElem?_eq_getElem (by rw [hg z]; exact hm))
  rw [hd, hj] at h3
  have h4 := hr (j % sz) v (by rw [List.getElem?_eq_getElem (by rw [hg z]; exact hm)]; exact h3.symm)
  rwa [Nat.add_assoc, hd] at h4
section
variable {P : Program} {n : Nat} {ops : Array Oper} {K : Fr → World → Prop} {l : List Oper} {f : Fr} {w : World} {ty : TypeId} {pos : String} {aft : Array Edge} {d : Nat}
theorem wpo_s2a {t e m sz len cap b q : Nat} {a : Option Addr} {x : Operand} (ht : arrTy P t = some (m, e, sz)) (hx : ev f x = .slice a len cap) (ha : a = some ⟨b, q, none⟩) (hm : m ≤ len) (hd : Nat.blt d n = true)
    (h : WpO P n ops K l (up f d (.pointer (some ⟨b, q, none⟩))) w) : WpO P n ops K (⟨some d, .sliceToArrayPointer t x, ty, pos, aft, none⟩ :: l) f w := by
  have hu := (arrTy_spec ht).1
  refine wpo_val rfl hd ?_ h
  simp only [execOp, hx, Instr.arrayAt, Sem.run_bind, run_underlying hu, Result.andThen_ok, if_neg (Nat.not_lt.2 hm), ha]
  rfl
theorem wpo_sliceArr {t e m sz b o : Nat} {x : Operand} (ht : arrTy P t = some (m, e, sz)) (hx : ev f x = .pointer (some ⟨b, o, none⟩)) (hm : 0 < m) (hd : Nat.blt d n = true)
    (h : WpO P n ops K l (up f d (.slice (some ⟨b, o, none⟩) m m)) w) : WpO P n ops K (⟨some d, .slice t x none none none, ty, pos, aft, none⟩ :: l) f w := by
  obtain ⟨hu, i, hi, hs⟩ := arrTy_spec ht
  have hz : (sizeOf e).run P w = .ok i.size w := by simp [sizeOf, typeInfo, hi]
  have hb : (Instr.sliceBounds false m m none none none).run P w = .ok (0, m, m) w := rfl
  refine wpo_val rfl hd ?_ h
  have hne : ¬ m = 0 := by omega
  simp [execOp, hx, Instr.sliceAt, Instr.sureAddr, run_underlying hu, hb, hz, Addr.add, hne]
theorem wpo_indexArr {α : Type} {g : α → List Value} {ys : List α} {z : α} {t e m sz : Nat} {k : IntKind} {i : Int} {x y : Operand} (ht : arrTy P t = some (m, e, sz)) (hr : rowTy P e = some sz) (hg : Wide g sz) (hx : ev f x = .agg (ys.flatMap g).toArray) (hy : ev f y = .int k i)
    (h0 : 0 ≤ i) (h1 : i < m) (hk : ys[i.toNat]? = some z) (hd : Nat.blt d n = true) (h : WpO P n ops K l (up f d (.agg (g z).toArray)) w) : WpO P n ops K (⟨some d, .index t x y, ty, pos, aft, none⟩ :: l) f w := by
  obtain ⟨hu, inf, hi, hs⟩ := arrTy_spec ht
  obtain ⟨dd, hue, hrow, _⟩ := rowTy_spec hr
  have hz : (sizeOf e).run P w = .ok sz w := by simp [sizeOf, typeInfo, hi, hs]
  have hagg : (isAgg e).run P w = .ok true w := by
    unfold isAgg
    cases dd <;> first | (cases hrow; done) | simp [run_underlying hue]
  have hpart : (part e (ys.flatMap g).toArray (i.toNat * sz)).run P w = .ok (.agg (g z).toArray) w := by
    simp only [part, Sem.run_bind, hagg, Result.andThen_ok, if_true, hz]
    rw [rows_row hg hk]
    rfl
  refine wpo_val rfl hd ?_ h
  simp [execOp, hx, hy, Instr.index, asIntOf, run_underlying hu, hz, h0, h1, hpart]
end
end Go.Dw
end
section
namespace Go.Dw
def thA (t : Th) : Bool := (((!inR t.kind 1 5) || (!labelOk t.lab)) || (!inR t.ve 0 5)) || (decide (3 < (t.queue.length : Int)))
def thB (t : Th) : Bool := ((!inR t.num (if t.kind = 3 then (-4) else 0) 99) || ((!(decide (t.num = 0))) && ((decide (t.kind = 2)) || (decide (t.kind = 4))))) || ((!(decide (t.ve = 0))) && ((decide (t.kind = 3)) || (decide (t.kind = 5))))
def thD (t : Th) : Bool := (((decide (t.kind = 2)) || (decide (t.kind = 3))) && (!(decide ((t.slots.length : Int) = 4)))) || ((!((decide (t.kind = 2)) || (decide (t.kind = 3)))) && (!(decide ((t.slots.length : Int) = 0))))
def thE (t : Th) : Bool := ((decide (t.kind = 4)) || (decide ((t.queue.length : Int) = 0))) && (((decide (t.kind = 5)) && inR t.to 1 8) || ((!(decide (t.kind = 5))) && (decide (t.to = 0))))
theorem thingOk_eq (t : Th) : thingOk t = (!thA t && !thB t && t.queue.all numQ && t.slots.all rightOk && !thD t && thE t) := by
  have hl : (t.queue.length : Int) = 0 → t.queue.all numQ = true := fun h => by
    have : t.queue = [] := List.eq_nil_of_length_eq_zero (by omega)
    simp [this]
  have hr : (t.slots.length : Int) = 0 → t.slots.all rightOk = true := fun h => by
    have : t.slots = [] := List.eq_nil_of_length_eq_zero (by omega)
    simp [this]
  obtain ⟨k, l, ve, num, slots, queue, to⟩ := t
  simp only at hl hr
  unfold thingOk thA thB thD thE versOk numOk slotsOk queueOk targetOk inR
  simp only
  generalize labelOk l = L
  generalize slots.all rightOk = R at *
  generalize queue.all numQ = Q at *
  generalize queue.length = ql at *
  generalize slots.length = sl at *
  by_cases h1 : k = 1
  · subst h1
    rw [Bool.eq_iff_iff]
    cases L <;> cases R <;> cases Q <;> simp at hl hr ⊢ <;> omega
  by_cases h2 : k = 2
  · subst h2
    rw [Bool.eq_iff_iff]
    cases L <;> cases R <;> cases Q <;> simp at hl hr ⊢ <;> omega
  by_cases h3 : k = 3
  · subst h3
    rw [Bool.eq_iff_iff]
    cases L <;> cases R <;> cases Q <;> simp at hl hr ⊢ <;> omega
  by_cases h4 : k = 4
  · subst h4
    rw [Bool.eq_iff_iff]
    cases L <;> cases R <;> cases Q <;> simp at hl hr ⊢ <;> omega
  by_cases h5 : k = 5
  · subst h5
    rw [Bool.eq_iff_iff]
    cases L <;> cases R <;> cases Q <;> simp at hl hr ⊢ <;> omega
  have h6 : (decide (1 ≤ k) && decide (k ≤ 5)) = false := by simp; omega
  simp [h6]
theorem th_a {t : Th} (h : thA t = true) : false = thingOk t := by rw [thingOk_eq, h]; rfl
theorem th_b {t : Th} (h : thB t = true) : false = thingOk t := by rw [thingOk_eq, h]; simp
theorem th_d {t : Th} (h : thD t = true) : false = thingOk t := by rw [thingOk_eq, h]; simp
theorem th_q {t : Th} {k : Nat} {x : Int} (hx : t.queue[k]? = some x) (h : inR x 0 99 = false) : false = thingOk t := by
  rw [thingOk_eq, all_false_of (p := numQ) hx h]; simp
theorem th_r {t : Th} {k : Nat} {x : Rt} (hx : t.slots[k]? = some x) (h : rightOk x = false) : false = thingOk t := by
  rw [thingOk_eq, all_false_of (p := rightOk) hx h]; simp
theorem th_e {t : Th} (ha : thA t = false) (hb : thB t = false) (hq : t.queue.all numQ = true) (hr : t.slots.all rightOk = true) (hd : thD t = false) : thE t = thingOk t := by
  rw [thingOk_eq, ha, hb, hq, hr, hd]; rfl
def Th.zero : Th := ⟨0, ⟨0, 0⟩, 0, 0, [], [], 0⟩
def has4 (k : Int) : Bool := decide (k = 2) || decide (k = 3)
def zeros4 : List Rt := [Rt.zero, Rt.zero, Rt.zero, Rt.zero]
def newTh (k : Int) (l : Lab) (to : Int) : Th := ⟨k, l, 0, 0, if has4 k = true then zeros4 else [], [], to⟩
def newOk (k : Int) (l : Lab) (to : Int) : Bool := thingOk (newTh k l to)
def thingNew (k : Int) (l : Lab) (to : Int) : Th := if newOk k l to = true then newTh k l to else Th.zero
theorem newOk_y {k to : Int} {l : Lab} (h : has4 k = true) : newOk k l to = thingOk ⟨k, l, 0, 0, zeros4, [], to⟩ := by unfold newOk newTh; rw [if_pos h]
theorem newOk_n {k to : Int} {l : Lab} (h : has4 k = false) : newOk k l to = thingOk ⟨k, l, 0, 0, [], [], to⟩ := by unfold newOk newTh; rw [if_neg (by rw [h]; exact Bool.false_ne_true)]
theorem th_ext {a b : Th} (h1 : a.kind = b.kind) (h2 : a.lab = b.lab) (h3 : a.ve = b.ve) (h4 : a.num = b.num) (h5 : a.slots = b.slots) (h6 : a.queue = b.queue) (h7 : a.to = b.to) : a = b := by
  obtain ⟨a1, a2, a3, a4, a5, a6, a7⟩ := a
  obtain ⟨b1, b2, b3, b4, b5, b6, b7⟩ := b
  simp only at h1 h2 h3 h4 h5 h6 h7
  subst h1 h2 h3 h4 h5 h6 h7
  rfl
abbrev mkRt (n : Int) : Rt := ⟨n, n + 1, decide ((n + 1 + 1) % 3 = 0), decide ((n + 1 + 1 + 1) % 3 = 0), decide ((n + 1 + 1 + 1 + 1) % 3 = 0)⟩
def markR (m : Int) (xs : List Rt) (k : Nat) : List Rt := (List.range k).map (fun i : Nat => mkRt (m + 5 * (i : Int))) ++ xs.drop k
theorem markR_len {m : Int} {xs : List Rt} {k : Nat} (hk : k ≤ xs.length) : (markR m xs k).length = xs.length := by simp [markR]; omega
theorem markR_zero {m : Int} {xs : List Rt} : markR m xs 0 = xs := by simp [markR]
theorem markR_set {m : Int} {xs : List Rt} {k : Nat} (hk : k < xs.length) : (markR m xs k).set k (mkRt (m + 5 * (k : Int))) = markR m xs (k + 1) := by
  unfold markR
  rw [List.set_append_right _ _ (by simp), List.length_map, List.length_range, Nat.sub_self, List.drop_eq_getElem_cons hk, List.set_cons_zero, List.range_succ, List.map_append, List.append_assoc]
  rfl
theorem markR_all {m : Int} {xs : List Rt} {k : Nat} (hk : xs.length ≤ k) : markR m xs k = (List.range k).map (fun i : Nat => mkRt (m + 5 * (i : Int))) := by simp [markR, List.drop_eq_nil_of_le hk]
def markI (m : Int) (xs : List Int) (k : Nat) : List Int := (List.range k).map (fun i : Nat => m + (i : Int)) ++ xs.drop k
theorem markI_len {m : Int} {xs : List Int} {k : Nat} (hk : k ≤ xs.length) : (markI m xs k).length = xs.length := by simp [markI]; omega
theorem markI_zero {m : Int} {xs : List Int} : markI m xs 0 = xs := by simp [markI]
theorem markI_set {m : Int} {xs : List Int} {k : Nat} (hk : k < xs.length) : (markI m xs k).set k (m + (k : Int)) = markI m xs (k + 1) := by
  unfold markI
  rw [List.set_append_right _ _ (by simp), List.length_map, List.length_range, Nat.sub_self, List.drop_eq_getElem_cons hk, List.set_cons_zero, List.range_succ, List.map_append, List.append_assoc]
  rfl
theorem markI_all {m : Int} {xs : List Int} {k : Nat} (hk : xs.length ≤ k) : markI m xs k = (List.range k).map (fun i : Nat => m + (i : Int)) := by simp [markI, List.drop_eq_nil_of_le hk]
theorem marks_get {m : Int} {n k : Nat} (h : k < n) : ((List.range n).map (fun i : Nat => mkRt (m + 5 * (i : Int))))[k]? = some (mkRt (m + 5 * (k : Int))) := by
  rw [List.getElem?_map, List.getElem?_range h]; rfl
theorem marksI_get {m : Int} {n k : Nat} (h : k < n) : ((List.range n).map (fun i : Nat => m + (i : Int)))[k]? = some (m + (k : Int)) := by
  rw [List.getElem?_map, List.getElem?_range h]; rfl
end Go.Dw
end
section
namespace Go.Dw
def MTh.zero : MTh := ⟨Th.zero, none, 0, none, 0⟩
def mAt (ms : List MTh) (i : Nat) : MTh := ms.getD i MTh.zero
theorem mAt_get {ms : List MTh} {i : Nat} (h : i < ms.length) : ms[i]? = some (mAt ms i) := by
  unfold mAt
  rw [List.getD_eq_getElem?_getD, List.getElem?_eq_getElem h]
  rfl
def rAt (xs : List Rt) (i : Nat) : Rt := xs.getD i Rt.zero
theorem rAt_get {xs : List Rt} {i : Nat} (h : i < xs.length) : xs[i]? = some (rAt xs i) := by
  unfold rAt
  rw [List.getD_eq_getElem?_getD, List.getElem?_eq_getElem h]
  rfl
def thAt (ts : List Th) (k : Int) : Th := ts.getD (k - 1).toNat Th.zero
def tabT (ms : List MTh) : List Th := ms.map (·.t)
theorem tabT_len (ms : List MTh) : (tabT ms).length = ms.length := List.length_map _
theorem mAt_t (ms : List MTh) (i : Nat) : (mAt ms i).t = (tabT ms).getD i Th.zero := by
  unfold mAt tabT
  rw [List.getD_eq_getElem?_getD, List.getD_eq_getElem?_getD, List.getElem?_map]
  cases ms[i]? <;> rfl
theorem mAt_th (ms : List MTh) (k : Int) : (mAt ms (k - 1).toNat).t = thAt (tabT ms) k := mAt_t ms _
def kindAt (ts : List Th) (k kd : Int) : Bool := inR k 1 (ts.length : Int) && decide ((thAt ts k).kind = kd)
def gateOk (ts : List Th) (t : Th) : Bool := !(decide (t.kind = 5)) || kindAt ts t.to 1
def rightTo (ts : List Th) (r : Rt) : Bool := decide (r.th = 0) || (inR r.th 1 (ts.length : Int) && decide (r.ve ≤ (thAt ts r.th).ve))
def tableOk (ts : List Th) : Bool := inR (ts.length : Int) 1 8 && (ts.all (fun t => thingOk t && gateOk ts t) && ts.all (fun t => t.slots.all (rightTo ts)))
theorem thingOk_parts {t : Th} (h : thingOk t = true) : inR t.kind 1 5 = true ∧ labelOk t.lab = true ∧ versOk t = true ∧ numOk t = true ∧ slotsOk t = true ∧ queueOk t = true ∧ targetOk t = true := by
  unfold thingOk at h
  simp only [Bool.and_eq_true] at h
  obtain ⟨⟨⟨⟨⟨⟨h1, h2⟩, h3⟩, h4⟩, h5⟩, h6⟩, h7⟩ := h
  exact ⟨h1, h2, h3, h4, h5, h6, h7⟩
theorem inR_iff {n lo hi : Int} : inR n lo hi = true ↔ lo ≤ n ∧ n ≤ hi := by simp [inR]
theorem th_gate {t : Th} (h : thingOk t = true) (hk : decide (t.kind = 5) = true) : 1 ≤ t.to ∧ t.to ≤ 8 := by
  have h7 := (thingOk_parts h).2.2.2.2.2.2
  unfold targetOk at h7
  rw [if_pos (of_decide_eq_true hk)] at h7
  exact inR_iff.1 h7
theorem th_slots {t : Th} (h : thingOk t = true) : t.slots.all rightOk = true := by
  rw [thingOk_eq] at h
  simp only [Bool.and_eq_true] at h
  exact h.1.1.2
theorem right_th {r : Rt} (h : rightOk r = true) : 0 ≤ r.th ∧ r.th ≤ 8 := by
  unfold rightOk at h
  simp only [Bool.or_eq_true, Bool.and_eq_true, decide_eq_true_eq] at h
  rcases h with rfl | ⟨⟨h1, _⟩, _⟩
  · exact ⟨by decide, by decide⟩
  · have := inR_iff.1 h1
    omega
theorem th_right {t : Th} {k : Nat} {r : Rt} (h : thingOk t = true) (hk : t.slots[k]? = some r) : 0 ≤ r.th ∧ r.th ≤ 8 :=
  right_th (List.all_eq_true.1 (th_slots h) r (List.mem_of_getElem? hk))
def rowOk (ts : List Th) (t : Th) : Bool := (thingOk t && gateOk ts t) && t.slots.all (rightTo ts)
theorem tableOk_rows (ts : List Th) : tableOk ts = (inR (ts.length : Int) 1 8 && ts.all (rowOk ts)) := by
  unfold tableOk rowOk
  congr 1
  generalize rightTo ts = p
  rw [Bool.eq_iff_iff]
  simp only [Bool.and_eq_true, List.all_eq_true]
  exact ⟨fun h x hx => ⟨h.1 x hx, h.2 x hx⟩, fun h => ⟨fun x hx => (h x hx).1, fun x hx => (h x hx).2⟩⟩
theorem tab_at {ms : List MTh} {k : Nat} (h : k < ms.length) : (tabT ms)[k]? = some (mAt ms k).t := by
  unfold tabT
  rw [List.getElem?_map, mAt_get h]
  rfl
theorem tab_no {ms : List MTh} {k : Nat} (h : k < ms.length) (hr : rowOk (tabT ms) (mAt ms k).t = false) : false = tableOk (tabT ms) := by
  rw [tableOk_rows, all_false_of (p := rowOk (tabT ms)) (tab_at h) hr, Bool.and_false]
theorem tab_yes {ms : List MTh} {k : Nat} (h : (((tabT ms).take k).all (rowOk (tabT ms))) = true) (hk : ms.length ≤ k) : inR (ms.length : Int) 1 8 = tableOk (tabT ms) := by
  rw [tableOk_rows, all_of_take h (by rw [tabT_len]; exact hk), Bool.and_true, tabT_len]
theorem row_head {ms : List MTh} {t : Th} {z : Bool} (hz : z = ((!thingOk t) || ((decide (t.kind = 5)) && ((decide ((ms.length : Int) < t.to)) || (!(decide ((mAt ms (t.to - 1).toNat).t.kind = 1))))))) :
    (z = true → rowOk (tabT ms) t = false) ∧ (z = false → thingOk t = true ∧ gateOk (tabT ms) t = true) := by
  subst hz
  cases ht : thingOk t with
  | false => simp [rowOk, ht]
  | true =>
    by_cases h5 : t.kind = 5
    · have hb := th_gate ht (decide_eq_true h5)
      simp only [rowOk, gateOk, kindAt, ht, h5, mAt_th, tabT_len, inR]
      by_cases hl : t.to ≤ (ms.length : Int)
      · have h1 : ¬ (ms.length : Int) < t.to := by omega
        by_cases hk : (thAt (tabT ms) t.to).kind = 1 <;> simp [h1, hl, hb.1, hk]
      · have h1 : (ms.length : Int) < t.to := by omega
        simp [h1, hl]
    · simp [gateOk, h5]
theorem row_right {ms : List MTh} {r : Rt} (h0 : 0 ≤ r.th) : ((decide ((ms.length : Int) < r.th)) || ((decide (0 < r.th)) && (decide ((mAt ms (r.th - 1).toNat).t.ve < r.ve)))) = !rightTo (tabT ms) r := by
  unfold rightTo inR
  rw [mAt_th, tabT_len, Bool.eq_iff_iff]
  simp
  omega
theorem row_no1 {ms : List MTh} {t : Th} {k : Nat} {r : Rt} (hr : t.slots[k]? = some r) (h : rightTo (tabT ms) r = false) : rowOk (tabT ms) t = false := by
  unfold rowOk
  rw [all_false_of hr h, Bool.and_false]
theorem row_yes {ms : List MTh} {t : Th} {j : Nat} (ht : thingOk t = true) (hg : gateOk (tabT ms) t = true) (h : ((t.slots.take j).all (rightTo (tabT ms))) = true) (hj : t.slots.length ≤ j) : rowOk (tabT ms) t = true := by
  unfold rowOk
  rw [ht, hg, all_of_take h hj]
  rfl
def TabLen (ms : List MTh) : Prop := ∀ m ∈ ms, m.t.slots.length ≤ 1048576 ∧ m.t.queue.length ≤ 1048576
theorem TabLen.at {ms : List MTh} (h : TabLen ms) {k : Nat} {m : MTh} (hk : ms[k]? = some m) : m.t.slots.length ≤ 1048576 ∧ m.t.queue.length ≤ 1048576 := h m (List.mem_of_getElem? hk)
end Go.Dw
end
section
namespace Go.Dw
def SlX (X : Option Nat) (w : World) (a : Option Addr) (sz : Nat) (xs : List (List Value)) : Prop := ∀ k x, xs[k]? = some x → ∃ b o, a = some ⟨b, o, none⟩ ∧ some b ≠ X ∧ w.rangeAt b (o + k * sz) x
section
variable {X : Option Nat} {w w' : World} {a : Option Addr} {sz : Nat} {xs : List (List Value)}
theorem SlX.sl (h : SlX X w a sz xs) : SlAt w a sz xs := fun k x hk => by
  obtain ⟨b, o, ha, _, hr⟩ := h k x hk
  exact ⟨b, o, ha, hr⟩
theorem SlX.low (h : SlX X w a sz xs) (hg : w.grownBy w' none) : SlX X w' a sz xs := fun k x hk => by
  obtain ⟨b, o, ha, hb, hr⟩ := h k x hk
  exact ⟨b, o, ha, hb, range_grown hr hg (by simp)⟩
theorem SlX.grown (h : SlX X w a sz xs) (hg : w.grownBy w' X) : SlX X w' a sz xs := fun k x hk => by
  obtain ⟨b, o, ha, hb, hr⟩ := h k x hk
  exact ⟨b, o, ha, hb, range_grown hr hg hb⟩
theorem SlX.nil : SlX X w a sz [] := fun k x hk => by simp at hk
theorem SlX.rows {α : Type} {g : α → List Value} (hg : Wide g sz) {ys : List α} {B : Nat} {T : TypeId} (h : Blk w B T (ys.flatMap g).toArray) (hB : some B ≠ X) : SlX X w (some ⟨B, 0, none⟩) sz (ys.map g) := fun k x hk => by
  obtain ⟨b, o, ha, hr⟩ := rows_sl hg h k x hk
  simp only [Option.some.injEq, Addr.mk.injEq] at ha
  obtain ⟨rfl, rfl, _⟩ := ha
  exact ⟨_, _, rfl, hB, hr⟩
theorem SlX.own {α : Type} {g : α → List Value} (hg : Wide g sz) {ys : List α} {B cap n : Nat} {T : TypeId} (h : Own w B T sz cap n (ys.flatMap g)) (hB : some B ≠ X) : SlX X w (some ⟨B, 0, none⟩) sz (ys.map g) := fun k x hk => by
  obtain ⟨b, o, ha, hr⟩ := Own.sl hg h k x hk
  simp only [Option.some.injEq, Addr.mk.injEq] at ha
  obtain ⟨rfl, rfl, _⟩ := ha
  exact ⟨_, _, rfl, hB, hr⟩
theorem SlX.ownN {α : Type} {g : α → List Value} (hg : Wide g sz) (h0 : 0 < sz) {ys : List α} {cap n lo : Nat} {T : TypeId} (h : OwnN lo w a T sz cap n (ys.flatMap g)) (hB : ∀ b, X = some b → b < lo) : SlX X w a sz (ys.map g) := fun k x hk => by
  obtain ⟨b, o, ha, hr⟩ := OwnN.sl hg h0 h k x hk
  refine ⟨b, o, ha, fun e => ?_, hr⟩
  have h1 := hB b e.symm
  rcases h.form with ⟨h2, _⟩ | ⟨B, h2, h3, _⟩
  · rw [h2] at ha; cases ha
  · rw [h2] at ha
    simp only [Option.some.injEq, Addr.mk.injEq] at ha
    omega
end
def ThX (X : Option Nat) (w : World) (m : MTh) : Prop := SlX X w m.sa 5 (m.t.slots.map Rt.cells) ∧ SlX X w m.qa 1 (m.t.queue.map icell) ∧ (m.sa = none → m.sc = 0) ∧ (m.qa = none → m.qc = 0)
def TabX (X : Option Nat) (w : World) (a : Option Addr) (ms : List MTh) : Prop := SlX X w a 8 (ms.map MTh.cells) ∧ ∀ m ∈ ms, ThX X w m
section
variable {X : Option Nat} {w w' : World} {a : Option Addr} {m : MTh} {ms : List MTh}
theorem ThX.at (h : ThX X w m) : ThAt w m := ⟨h.1.sl, h.2.1.sl, h.2.2⟩
theorem ThX.low (h : ThX X w m) (hg : w.grownBy w' none) : ThX X w' m := ⟨h.1.low hg, h.2.1.low hg, h.2.2⟩
theorem ThX.grown (h : ThX X w m) (hg : w.grownBy w' X) : ThX X w' m := ⟨h.1.grown hg, h.2.1.grown hg, h.2.2⟩
theorem TabX.at (h : TabX X w a ms) : TabAt w a ms := ⟨h.1.sl, fun m hm => (h.2 m hm).at⟩
theorem TabX.low (h : TabX X w a ms) (hg : w.grownBy w' none) : TabX X w' a ms := ⟨h.1.low hg, fun m hm => (h.2 m hm).low hg⟩
theorem TabX.grown (h : TabX X w a ms) (hg : w.grownBy w' X) : TabX X w' a ms := ⟨h.1.grown hg, fun m hm => (h.2 m hm).grown hg⟩
theorem TabX.th (h : TabX X w a ms) {k : Nat} (hk : ms[k]? = some m) : ThX X w m := h.2 m (List.mem_of_getElem? hk)
end
def padM (n : Nat) (ys : List MTh) : List MTh := ys ++ List.replicate (n - ys.length) MTh.zero
theorem padM_zero (n : Nat) : padM n [] = List.replicate n MTh.zero := by simp [padM]
theorem padM_all {n : Nat} {ys : List MTh} (h : ys.length = n) : padM n ys = ys := by simp [padM, h]
theorem padM_len {n : Nat} {ys : List MTh} (h : ys.length ≤ n) : (padM n ys).length = n := by simp [padM]; omega
theorem padM_set {n k : Nat} {ys : List MTh} {m : MTh} (hk : ys.length = k) (h : k < n) : (padM n ys).set k m = padM n (ys ++ [m]) := by
  unfold padM
  rw [List.set_append_right _ _ (by omega), hk, Nat.sub_self, show n - k = (n - (ys ++ [m]).length) + 1 by simp; omega, List.replicate_succ, List.set_cons_zero, List.append_assoc]
  rfl
theorem tabT_snoc {ys ms : List MTh} {k : Nat} {m m' : MTh} (h : tabT ys = (tabT ms).take k) (hx : ms[k]? = some m) (he : m'.t = m.t) : tabT (ys ++ [m']) = (tabT ms).take (k + 1) := by
  have h1 : (tabT ms)[k]? = some m.t := by unfold tabT; rw [List.getElem?_map, hx]; rfl
  rw [List.take_add_one, h1, ← h]
  simp [tabT, he]
theorem tabT_all {ys ms : List MTh} {k : Nat} (h : tabT ys = (tabT ms).take k) (hk : ms.length ≤ k) : tabT ys = tabT ms := by
  rwa [List.take_of_length_le (by rw [tabT_len]; exact hk)] at h
theorem TabLen.of {ys ms : List MTh} (h : tabT ys = tabT ms) (hl : TabLen ms) : TabLen ys := fun m hm => by
  have h1 : m.t ∈ tabT ms := by rw [← h]; exact List.mem_map.2 ⟨m, hm, rfl⟩
  obtain ⟨m', hm', e⟩ := List.mem_map.1 h1
  have := hl m' hm'
  rwa [e] at this
theorem tabT_length {ys ms : List MTh} (h : tabT ys = tabT ms) : ys.length = ms.length := by
  have := congrArg List.length h
  rwa [tabT_len, tabT_len] at this
def TabBig (ms : List MTh) : Prop := ∀ m ∈ ms, m.t.slots.length ≤ 9223372036854775807 ∧ m.t.queue.length ≤ 9223372036854775807
theorem TabBig.at {ms : List MTh} (h : TabBig ms) {k : Nat} {m : MTh} (hk : ms[k]? = some m) : m.t.slots.length ≤ 9223372036854775807 ∧ m.t.queue.length ≤ 9223372036854775807 := h m (List.mem_of_getElem? hk)
theorem take_len {ms : List MTh} {k : Nat} {m : MTh} (h : ∀ x ∈ ms.take k, x.t.slots.length ≤ 1048576 ∧ x.t.queue.length ≤ 1048576) (hx : ms[k]? = some m) (hm : m.t.slots.length ≤ 1048576 ∧ m.t.queue.length ≤ 1048576) :
    ∀ x ∈ ms.take (k + 1), x.t.slots.length ≤ 1048576 ∧ x.t.queue.length ≤ 1048576 := fun x hxm => by
  rw [List.take_add_one, hx] at hxm
  rcases List.mem_append.1 hxm with h1 | h1
  · exact h x h1
  · simp at h1; subst h1; exact hm
theorem take_len_all {ms : List MTh} {k : Nat} (h : ∀ x ∈ ms.take k, x.t.slots.length ≤ 1048576 ∧ x.t.queue.length ≤ 1048576) (hk : ms.length ≤ k) : TabLen ms := by
  rwa [List.take_of_length_le hk] at h
theorem tab_row {ms : List MTh} (h : tableOk (tabT ms) = true) {i : Nat} (hi : i < ms.length) : rowOk (tabT ms) (mAt ms i).t = true := by
  rw [tableOk_rows] at h
  exact List.all_eq_true.1 (Bool.and_eq_true_iff.1 h).2 _ (List.mem_of_getElem? (tab_at hi))
theorem tab_thing {ms : List MTh} (h : tableOk (tabT ms) = true) {i : Nat} (hi : i < ms.length) : thingOk (mAt ms i).t = true := by
  have h1 := tab_row h hi
  unfold rowOk at h1
  simp only [Bool.and_eq_true] at h1
  exact h1.1.1
theorem kindAt_m {ms : List MTh} {k kd : Int} : (inR k 1 (ms.length : Int) && decide ((mAt ms (k - 1).toNat).t.kind = kd)) = kindAt (tabT ms) k kd := by
  unfold kindAt
  rw [mAt_th, tabT_len]
end Go.Dw
end
section
namespace Go.Dw
def RB (r : Rt) : Prop := -1 ≤ r.th ∧ r.th ≤ 9 ∧ -1 ≤ r.ve ∧ r.ve ≤ 9
structure RowD (TR TI lo : Nat) (w : World) (m : MTh) : Prop where
  q : OwnN lo w m.qa TI 1 m.qc m.t.queue.length (m.t.queue.flatMap icell)
  s : ∃ xs : List Rt, OwnN lo w m.sa TR 5 m.sc m.t.slots.length (xs.flatMap Rt.cells) ∧ xs.length = m.t.slots.length ∧ ∀ x ∈ xs, RB x
  ql : m.t.queue.length ≤ 3
  sl : m.t.slots.length ≤ 4
  ve : 0 ≤ m.t.ve ∧ m.t.ve ≤ 1
def RowsD (TR TI lo : Nat) (w : World) (ms : List MTh) : Prop := ∀ m ∈ ms, RowD TR TI lo w m
theorem own_ne {w : World} {B C : Nat} {T U : TypeId} {sz sz' cap cap' n n' : Nat} {vs us : List Value} (h : Own w B T sz cap n vs) (k : Own w C U sz' cap' n' us) (hT : T ≠ U) : B ≠ C := fun e => by
  subst e
  obtain ⟨_, c1, h1, _⟩ := h.blk
  obtain ⟨_, c2, h2, _⟩ := k.blk
  have : some (Obj.cells c1 T (0, 0)) = some (Obj.cells c2 U (0, 0)) := h1.symm.trans h2
  simp only [Option.some.injEq, Obj.cells.injEq] at this
  exact hT this.2.1
theorem OwnN.typ {lo : Nat} {w w' : World} {a : Option Addr} {T U : TypeId} {sz sz' cap cap' n n' B : Nat} {vs us : List Value} (h : OwnN lo w a T sz cap n vs) (hg : w.grownBy w' (some B)) (k : Own w B U sz' cap' n' us) (hT : T ≠ U) : OwnN lo w' a T sz cap n vs := by
  rcases h.form with ⟨rfl, rfl, rfl, rfl⟩ | ⟨C, rfl, h2, _, h3⟩
  · exact OwnN.nil
  · exact OwnN.of (h3.grown hg (some_ne (own_ne h3 k hT))) h2
section
variable {TR TI lo : Nat} {w w' : World} {m : MTh} {ms : List MTh}
theorem RowD.low (h : RowD TR TI lo w m) (hg : w.grownBy w' none) : RowD TR TI lo w' m :=
  ⟨h.q.grown0 hg, let ⟨xs, h1, h2⟩ := h.s; ⟨xs, h1.grown0 hg, h2⟩, h.ql, h.sl, h.ve⟩
theorem RowD.lt {R : Nat} (h : RowD TR TI lo w m) (hg : w.grownBy w' (some R)) (hR : R < lo) : RowD TR TI lo w' m :=
  ⟨h.q.grown_lt hg hR, let ⟨xs, h1, h2⟩ := h.s; ⟨xs, h1.grown_lt hg hR, h2⟩, h.ql, h.sl, h.ve⟩
theorem RowD.typ {B U sz cap n : Nat} {us : List Value} (h : RowD TR TI lo w m) (hg : w.grownBy w' (some B)) (k : Own w B U sz cap n us) (h1 : TR ≠ U) (h2 : TI ≠ U) : RowD TR TI lo w' m :=
  ⟨h.q.typ hg k h2, let ⟨xs, h3, h4⟩ := h.s; ⟨xs, h3.typ hg k h1, h4⟩, h.ql, h.sl, h.ve⟩
theorem RowD.mono {lo' : Nat} (h : RowD TR TI lo w m) (hl : lo' ≤ lo) : RowD TR TI lo' w m :=
  ⟨h.q.mono hl, let ⟨xs, h1, h2⟩ := h.s; ⟨xs, h1.mono hl, h2⟩, h.ql, h.sl, h.ve⟩
theorem RowsD.low (h : RowsD TR TI lo w ms) (hg : w.grownBy w' none) : RowsD TR TI lo w' ms := fun m hm => (h m hm).low hg
theorem RowsD.lt {R : Nat} (h : RowsD TR TI lo w ms) (hg : w.grownBy w' (some R)) (hR : R < lo) : RowsD TR TI lo w' ms := fun m hm => (h m hm).lt hg hR
theorem RowsD.typ {B U sz cap n : Nat} {us : List Value} (h : RowsD TR TI lo w ms) (hg : w.grownBy w' (some B)) (k : Own w B U sz cap n us) (h1 : TR ≠ U) (h2 : TI ≠ U) : RowsD TR TI lo w' ms := fun m hm => (h m hm).typ hg k h1 h2
theorem RowsD.ge {b hi : Nat} (h : RowsD TR TI lo w ms) (hg : w.grownBy w' (some b)) (hH : ∀ m ∈ ms, ∀ c, (m.sa = some ⟨c, 0, none⟩ ∨ m.qa = some ⟨c, 0, none⟩) → c < hi) (hb : hi ≤ b) : RowsD TR TI lo w' ms := fun m hm =>
  ⟨(h m hm).q.grown hg (fun B e => some_ne (by have := hH m hm B (Or.inr e); omega)), let ⟨xs, h1, h2⟩ := (h m hm).s; ⟨xs, h1.grown hg (fun B e => some_ne (by have := hH m hm B (Or.inl e); omega)), h2⟩, (h m hm).ql, (h m hm).sl, (h m hm).ve⟩
theorem RowsD.hi (h : RowsD TR TI lo w ms) : ∀ m ∈ ms, ∀ c, (m.sa = some ⟨c, 0, none⟩ ∨ m.qa = some ⟨c, 0, none⟩) → c < w.heap.size := fun m hm c hc => by
  rcases hc with e | e
  · obtain ⟨xs, h1, _⟩ := (h m hm).s
    rcases h1.form with ⟨e2, _⟩ | ⟨B, e2, _, h3, _⟩
    · rw [e2] at e; cases e
    · rw [e2] at e
      simp only [Option.some.injEq, Addr.mk.injEq, and_true] at e
      omega
  · rcases (h m hm).q.form with ⟨e2, _⟩ | ⟨B, e2, _, h3, _⟩
    · rw [e2] at e; cases e
    · rw [e2] at e
      simp only [Option.some.injEq, Addr.mk.injEq, and_true] at e
      omega
theorem RowsD.snoc (h : RowsD TR TI lo w ms) (hm : RowD TR TI lo w m) : RowsD TR TI lo w (ms ++ [m]) := fun x hx => by
  rcases List.mem_append.1 hx with h1 | h1
  · exact h x h1
  · simp at h1; subst h1; exact hm
theorem RowsD.nil : RowsD TR TI lo w [] := fun x hx => by simp at hx
theorem RowsD.at (h : RowsD TR TI lo w ms) {i : Nat} (hi : i < ms.length) : RowD TR TI lo w (mAt ms i) := h _ (List.mem_of_getElem? (mAt_get hi))
def PutR (T : TypeId) (S k : Nat) (x : Rt) (w w' : World) : Prop := ∀ cap n (ys : List Rt), Own w S T 5 cap n (ys.flatMap Rt.cells) → Own w' S T 5 cap n ((ys.set k x).flatMap Rt.cells)
theorem RowD.put {S k : Nat} {x : Rt} (h : RowD TR TI lo w m) (hp : PutR TR S k x w w') (hg : w.grownBy w' (some S)) (hx : RB x) {cap n : Nat} {us : List Value} (ho : Own w S TR 5 cap n us) (hT : TI ≠ TR) : RowD TR TI lo w' m := by
  refine ⟨h.q.typ hg ho hT, ?_, h.ql, h.sl, h.ve⟩
  obtain ⟨xs, h1, h2, h3⟩ := h.s
  rcases h1.form with ⟨e1, e2, e3, e4⟩ | ⟨C, e1, e2, e3, e4⟩
  · refine ⟨xs, ?_, h2, h3⟩
    rw [e1, e2, e3, e4]
    exact OwnN.nil
  · by_cases hC : C = S
    · subst hC
      refine ⟨xs.set k x, ?_, by rw [List.length_set, h2], fun y hy => ?_⟩
      · rw [e1]; exact OwnN.of (hp _ _ _ e4) e2
      · rcases List.mem_or_eq_of_mem_set hy with h4 | rfl
        · exact h3 y h4
        · exact hx
    · refine ⟨xs, ?_, h2, h3⟩
      rw [e1]
      exact OwnN.of (e4.grown hg (some_ne hC)) e2
theorem RowsD.put {S k : Nat} {x : Rt} (h : RowsD TR TI lo w ms) (hp : PutR TR S k x w w') (hg : w.grownBy w' (some S)) (hx : RB x) {cap n : Nat} {us : List Value} (ho : Own w S TR 5 cap n us) (hT : TI ≠ TR) : RowsD TR TI lo w' ms :=
  fun m hm => (h m hm).put hp hg hx ho hT
end
section
variable {P : Program} {n : Nat} {ops : Array Oper} {K : Fr → World → Prop} {l : List Oper} {f : Fr} {w : World} {ty : TypeId} {pos : String} {aft : Array Edge} {d : Nat}
end
def SlG (lo : Nat) (w : World) (a : Option Addr) (sz : Nat) (xs : List (List Value)) : Prop := ∀ k x, xs[k]? = some x → ∃ b o, a = some ⟨b, o, none⟩ ∧ lo ≤ b ∧ w.rangeAt b (o + k * sz) x
section
variable {lo : Nat} {w w' : World} {a : Option Addr} {sz : Nat} {xs : List (List Value)}
theorem SlG.sl (h : SlG lo w a sz xs) : SlAt w a sz xs := fun k x hk => by
  obtain ⟨b, o, ha, _, hr⟩ := h k x hk
  exact ⟨b, o, ha, hr⟩
theorem SlG.low (h : SlG lo w a sz xs) (hg : w.grownBy w' none) : SlG lo w' a sz xs := fun k x hk => by
  obtain ⟨b, o, ha, hb, hr⟩ := h k x hk
  exact ⟨b, o, ha, hb, range_grown hr hg (by simp)⟩
theorem SlG.lt {R : Nat} (h : SlG lo w a sz xs) (hg : w.grownBy w' (some R)) (hR : R < lo) : SlG lo w' a sz xs := fun k x hk => by
  obtain ⟨b, o, ha, hb, hr⟩ := h k x hk
  exact ⟨b, o, ha, hb, range_grown hr hg (some_ne (by omega))⟩
theorem SlG.mono {lo' : Nat} (h : SlG lo w a sz xs) (hl : lo' ≤ lo) : SlG lo' w a sz xs := fun k x hk => by
  obtain ⟨b, o, ha, hb, hr⟩ := h k x hk
  exact ⟨b, o, ha, Nat.le_trans hl hb, hr⟩
theorem SlG.own {α : Type} {g : α → List Value} (hg : Wide g sz) {ys : List α} {B cap n : Nat} {T : TypeId} (h : Own w B T sz cap n (ys.flatMap g)) (hB : lo ≤ B) : SlG lo w (some ⟨B, 0, none⟩) sz (ys.map g) := fun k x hk => by
  obtain ⟨b, o, ha, hr⟩ := Own.sl hg h k x hk
  simp only [Option.some.injEq, Addr.mk.injEq] at ha
  obtain ⟨rfl, rfl, _⟩ := ha
  exact ⟨_, _, rfl, hB, hr⟩
theorem SlG.ownN {α : Type} {g : α → List Value} (hg : Wide g sz) (h0 : 0 < sz) {ys : List α} {cap n : Nat} {T : TypeId} (h : OwnN lo w a T sz cap n (ys.flatMap g)) : SlG lo w a sz (ys.map g) := fun k x hk => by
  obtain ⟨b, o, ha, hr⟩ := OwnN.sl hg h0 h k x hk
  refine ⟨b, o, ha, ?_, hr⟩
  rcases h.form with ⟨h2, _⟩ | ⟨B, h2, h3, _⟩
  · rw [h2] at ha; cases ha
  · rw [h2] at ha
    simp only [Option.some.injEq, Addr.mk.injEq] at ha
    omega
end
def ThG (lo : Nat) (w : World) (m : MTh) : Prop := SlG lo w m.sa 5 (m.t.slots.map Rt.cells) ∧ SlG lo w m.qa 1 (m.t.queue.map icell) ∧ (m.sa = none → m.sc = 0) ∧ (m.qa = none → m.qc = 0)
def TabG (lo : Nat) (w : World) (a : Option Addr) (ms : List MTh) : Prop := SlG lo w a 8 (ms.map MTh.cells) ∧ ∀ m ∈ ms, ThG lo w m
section
variable {lo : Nat} {w w' : World} {a : Option Addr} {m : MTh} {ms : List MTh}
theorem TabG.at (h : TabG lo w a ms) : TabAt w a ms := ⟨h.1.sl, fun m hm => ⟨(h.2 m hm).1.sl, (h.2 m hm).2.1.sl, (h.2 m hm).2.2⟩⟩
theorem TabG.low (h : TabG lo w a ms) (hg : w.grownBy w' none) : TabG lo w' a ms := ⟨h.1.low hg, fun m hm => ⟨(h.2 m hm).1.low hg, (h.2 m hm).2.1.low hg, (h.2 m hm).2.2⟩⟩
theorem TabG.lt {R : Nat} (h : TabG lo w a ms) (hg : w.grownBy w' (some R)) (hR : R < lo) : TabG lo w' a ms := ⟨h.1.lt hg hR, fun m hm => ⟨(h.2 m hm).1.lt hg hR, (h.2 m hm).2.1.lt hg hR, (h.2 m hm).2.2⟩⟩
theorem TabG.mono {lo' : Nat} (h : TabG lo w a ms) (hl : lo' ≤ lo) : TabG lo' w a ms := ⟨h.1.mono hl, fun m hm => ⟨(h.2 m hm).1.mono hl, (h.2 m hm).2.1.mono hl, (h.2 m hm).2.2⟩⟩
end
def TabHi (hi : Nat) (a : Option Addr) (ms : List MTh) : Prop := (∀ b o, a = some ⟨b, o, none⟩ → 0 < ms.length → b < hi) ∧ ∀ m ∈ ms, (∀ b o, m.sa = some ⟨b, o, none⟩ → 0 < m.t.slots.length → b < hi) ∧ ∀ b o, m.qa = some ⟨b, o, none⟩ → 0 < m.t.queue.length → b < hi
theorem sl_hi {α : Type} {g : α → List Value} {sz lo : Nat} (hg : Wide g sz) (h0 : 0 < sz) {w : World} {a : Option Addr} {ys : List α} (h : SlG lo w a sz (ys.map g)) : ∀ b o, a = some ⟨b, o, none⟩ → 0 < ys.length → b < w.heap.size := fun b o ha hn => by
  obtain ⟨y, hy⟩ := get_lt hn
  obtain ⟨b', o', ha', _, hr⟩ := h 0 (g y) (map_get hy)
  rw [ha] at ha'
  simp only [Option.some.injEq, Addr.mk.injEq] at ha'
  obtain ⟨rfl, rfl, _⟩ := ha'
  obtain ⟨v, hv⟩ : ∃ v, (g y)[0]? = some v := ⟨_, List.getElem?_eq_getElem (by rw [hg y]; exact h0)⟩
  exact World.block_lt_of_cell? w _ (hr 0 v hv)
theorem TabG.hi {lo : Nat} {w : World} {a : Option Addr} {ms : List MTh} (h : TabG lo w a ms) : TabHi w.heap.size a ms :=
  ⟨sl_hi wide_mth (by omega) h.1, fun m hm => ⟨sl_hi wide_rt (by omega) (h.2 m hm).1, sl_hi wide_int (by omega) (h.2 m hm).2.1⟩⟩
theorem SlG.ge {α : Type} {g : α → List Value} {sz lo hi b : Nat} {w w' : World} {a : Option Addr} {ys : List α} (h : SlG lo w a sz (ys.map g)) (hg : w.grownBy w' (some b)) (hH : ∀ c o, a = some ⟨c, o, none⟩ → 0 < ys.length → c < hi) (hb : hi ≤ b) : SlG lo w' a sz (ys.map g) := fun k x hk => by
  obtain ⟨c, o, ha, hc, hr⟩ := h k x hk
  have hn : 0 < ys.length := by
    have := (List.getElem?_eq_some_iff.1 hk).1
    rw [List.length_map] at this
    omega
  have := hH c o ha hn
  exact ⟨c, o, ha, hc, range_grown hr hg (some_ne (by omega))⟩
theorem TabG.ge {lo hi b : Nat} {w w' : World} {a : Option Addr} {ms : List MTh} (h : TabG lo w a ms) (hg : w.grownBy w' (some b)) (hH : TabHi hi a ms) (hb : hi ≤ b) : TabG lo w' a ms :=
  ⟨h.1.ge hg hH.1 hb, fun m hm => ⟨(h.2 m hm).1.ge hg (hH.2 m hm).1 hb, (h.2 m hm).2.1.ge hg (hH.2 m hm).2 hb, (h.2 m hm).2.2⟩⟩
def Small (ms : List MTh) : Prop := ∀ m ∈ ms, m.t.slots.length ≤ 4 ∧ m.t.queue.length ≤ 3
theorem Small.len {ms : List MTh} (h : Small ms) : TabLen ms := fun m hm => ⟨by have := h m hm; omega, by have := h m hm; omega⟩
theorem RowsD.tab {TR TI lo : Nat} {w : World} : ∀ (ms : List MTh), RowsD TR TI lo w ms → ∃ ms' : List MTh, ms'.map MTh.cells = ms.map MTh.cells ∧ (∀ m ∈ ms', ThG lo w m) ∧ Small ms'
  | [], _ => ⟨[], rfl, fun m hm => by simp at hm, fun m hm => by simp at hm⟩
  | m :: ms, h => by
    obtain ⟨ms', h1, h2, h5⟩ := RowsD.tab ms fun x hx => h x (List.mem_cons_of_mem _ hx)
    have hm := h m (List.mem_cons_self ..)
    obtain ⟨xs, h3, h4, _⟩ := hm.s
    refine ⟨⟨{ m.t with slots := xs }, m.sa, m.sc, m.qa, m.qc⟩ :: ms', ?_, ?_, ?_⟩
    · rw [List.map_cons, List.map_cons, h1]
      simp only [MTh.cells, h4]
    · intro x hx
      rcases List.mem_cons.1 hx with rfl | hx
      · exact ⟨SlG.ownN wide_rt (by omega) h3, SlG.ownN wide_int (by omega) hm.q, fun e => h3.cap0 e, fun e => hm.q.cap0 e⟩
      · exact h2 x hx
    · intro x hx
      rcases List.mem_cons.1 hx with rfl | hx
      · refine ⟨?_, hm.ql⟩
        show xs.length ≤ 4
        rw [h4]; exact hm.sl
      · exact h5 x hx
end Go.Dw
end
section
namespace Go.Dw
set_option linter.unusedSimpArgs false
set_option linter.unusedVariables false
open Go.RowKit Go.Shelf
section
variable {F : Fence} {m : Nat} {P : Program}
end
def Wpg (F : Fence) (m : Nat) (P : Program) (n : Nat) (Q : Exit → Fr → World → Prop) (c : Code) (f : Fr) (w : World) : Prop :=
  ∀ a, FEq n a f → c.wpIn F m P (fun e a' w' => ∃ f', FEq n a' f' ∧ Q e f' w') a w
def WpOG (F : Fence) (m : Nat) (P : Program) (n : Nat) (ops : Array Oper) (K : Fr → World → Prop) (l : List Oper) (f : Fr) (w : World) : Prop :=
  ∀ a, FEq n a f → ∀ Q : Exit → Act → World → Prop, (∀ a' w' f', FEq n a' f' → K f' w' → Q .normal a' w') → wpListIn F m P ops Q l a w
section
variable {F : Fence} {m : Nat} {P : Program} {n : Nat} {Q : Exit → Fr → World → Prop} {f : Fr} {w : World}
theorem Wpg.mono {Q' : Exit → Fr → World → Prop} {c : Code} (h : Wpg F m P n Q c f w) (hq : ∀ e f w, Q e f w → Q' e f w) : Wpg F m P n Q' c f w :=
  fun a ha => wpIn_mono (h a ha) fun _ _ _ ⟨f', hf, hQ⟩ => ⟨f', hf, hq _ _ _ hQ⟩
end
section
variable {F : Fence} {m : Nat} {P : Program} {n : Nat} {ops : Array Oper} {K : Fr → World → Prop} {l : List Oper} {f : Fr} {w w' : World} {o : Oper} {v : Value} {Q : Exit → Fr → World → Prop}
theorem WpOG.mono {K' : Fr → World → Prop} (h : WpOG F m P n ops K l f w) (hk : ∀ f w, K f w → K' f w) : WpOG F m P n ops K' l f w :=
  fun a ha Q hQ => h a ha Q fun a' w' f' hf hK => hQ a' w' f' hf (hk _ _ hK)
end
section
variable {P : Program} {n : Nat} {ops : List Oper} {f : Fr}
end
theorem resCell_mk1 {P : Program} {f : Fr} {w : World} {t T b o : Nat} {v : Value} (ht : oneTy P T = true) (hf : f t = .pointer (some ⟨b, o, none⟩)) (hc : w.cell? ⟨b, o, none⟩ = some v) : resCell P f w t T v :=
  ⟨_, hf, by simp [loadVar, run_isAgg1 ht, hc]⟩
def WpA (m : Nat) (P : Program) (n : Nat) (QA : Exit → Act → World → Prop) (c : Code) (f : Fr) (w : World) : Prop := ∀ a, FEq n a f → c.wpIn Fence.wide m P QA a w
def toQ (n : Nat) (QA : Exit → Act → World → Prop) : Exit → Fr → World → Prop := fun e f w => ∀ a, FEq n a f → QA e a w
section
variable {m : Nat} {P : Program} {n : Nat} {QA : Exit → Act → World → Prop} {f : Fr} {w : World}
theorem wpa_seq {x y : Code} (h : Wpf P n (thn (WpA m P n QA y) (toQ n QA)) x f w) : WpA m P n QA (.seq x y) f w := fun a ha =>
  wpIn_seq (wpIn_wide.2 (wp_mono (h a ha) fun e a' w' ⟨f', hf, hQ⟩ => by
    cases e with
    | normal => exact hQ a' hf
    | exit i => exact hQ a' hf
    | goto l => exact hQ a' hf
    | ret => exact hQ a' hf
    | panic c => exact hQ a' hf
    | outgrown => exact hQ a' hf))
theorem wpa_seq_region {id : Nat} {l : List Oper} {y : Code} (h : WpO P n l.toArray (WpA m P n QA y) l f w) : WpA m P n QA (.seq (.region id l.toArray false) y) f w := wpa_seq (wpf_region h)
theorem wpa_seqT {x y : Code} (h : WpA m P n (Exit.then (y.wpIn Fence.wide m P QA) QA) x f w) : WpA m P n QA (.seq x y) f w := fun a ha => wpIn_seq (h a ha)
end
theorem wpa_gen {m : Nat} {P : Program} {n : Nat} {QA : Exit → Act → World → Prop} {c : Code} {f : Fr} {w : World} (M : Fr → Prop) (h : M f) (hM : ∀ f, M f → WpA m P n QA c f w) : WpA m P n QA c f w := hM f h
section
end
theorem callsA {P : Program} {k : FuncId} {fn : Func} {c : Code} {args : Array Value} {w : World} {R : Value → World → Prop} {n m : Nat}
    (hf : P.funcs[k]? = some fn) (hb : fn.body = some c) (hn : fn.ntmps = n) (hs : Nat.ble args.size n = true)
    (h : WpA m P n (bodyPostM Fence.wide m P fn (fun e w' => ∃ v, e = .returned v ∧ R v w')) c (f0 args) w) : Calls P k args w fun e w' => ∃ v, e = .returned v ∧ R v w' := by
  have hs' : args.size ≤ n := by simpa [Nat.ble_eq] using hs
  refine callsIn_wide.1 (callsIn_of_wp_marks hf hb trivial (h _ ⟨rfl, by simp [hn]; omega, fun i => ?_⟩))
  simp only [f0, lget_eq, Array.getD_eq_getD_getElem?, Array.getElem?_toList]
  by_cases hi : i < args.size
  · rw [Array.getElem?_append_left hi]
  · rw [Array.getElem?_append_right (by omega), Array.getElem?_eq_none (by omega : args.size ≤ i)]
    by_cases h2 : i - args.size < fn.ntmps - args.size
    · simp [h2]
    · rw [Array.getElem?_eq_none (by simp; omega)]
theorem endA {m n : Nat} {P : Program} {fn : Func} {R : Value → World → Prop} {f : Fr} {w : World} {v : Value} (hv : resV P fn f w v) (hR : R v w) : toQ n (bodyPostM Fence.wide m P fn (fun e w' => ∃ v, e = .returned v ∧ R v w')) .ret f w := fun a ha => by
  show LeavesInM Fence.wide m P fn a.tmps _ a.defers .returning w
  rw [ha.defers]
  exact ⟨v, hv _ ha.at_, v, rfl, hR⟩
theorem own_grown {w A B : World} {row : Option Nat} {n0 : Nat} (h : w.grownBy A none) (hg : A.grownBy B row) (hn : w.heap.size ≤ n0) (hr : ∀ r, row = some r → n0 ≤ r ∧ ∃ o : Obj, A.heap[r]? = some o ∧ o.isCells = false) : w.grownBy B none :=
  ⟨hg.os.trans h.os, hg.tape.trans h.tape, hg.output.trans h.output, Nat.le_trans h.size hg.size, fun i hi _ => (hg.block i (Nat.lt_of_lt_of_le hi h.size) (fun e => by have := (hr i e.symm).1; omega)).trans (h.block i hi (by simp))⟩
theorem own_blk {A B : World} {row : Option Nat} {b n0 : Nat} {T : TypeId} {cs : Array Value} (h : Blk A b T cs) (hg : A.grownBy B row) (hr : ∀ r, row = some r → n0 ≤ r ∧ ∃ o : Obj, A.heap[r]? = some o ∧ o.isCells = false) : Blk B b T cs :=
  h.grown hg (fun e => by
    obtain ⟨o, ho, hc⟩ := (hr b e.symm).2
    rw [show A.heap[b]? = _ from h] at ho
    cases ho
    cases hc)
theorem gob {w w' : World} (h : Below w.heap.size w w') : w.grownBy w' none := ⟨h.os, h.tape, h.output, h.size, fun k hk _ => h.block k hk⟩
theorem grown_below {w A B : World} (h : w.grownBy A none) (k : Below w.heap.size A B) : w.grownBy B none :=
  ⟨k.os.trans h.os, k.tape.trans h.tape, k.output.trans h.output, Nat.le_trans h.size k.size, fun i hi _ => (k.block i hi).trans (h.block i hi (by simp))⟩
theorem grown_weak {w w' : World} {r : Option Nat} (h : w.grownBy w' none) : w.grownBy w' r := ⟨h.os, h.tape, h.output, h.size, fun i hi _ => h.block i hi (by simp)⟩
def allR (ms : List MTh) : List Rt := ms.flatMap (fun m => m.t.slots)
def preR (ms : List MTh) (k j : Nat) : List Rt := allR (ms.take k) ++ (mAt ms k).t.slots.take j
theorem preR_zero (ms : List MTh) (k : Nat) : preR ms k 0 = allR (ms.take k) := by simp [preR]
theorem preR_snoc {ms : List MTh} {k j : Nat} (hj : j < (mAt ms k).t.slots.length) : preR ms k j ++ [rAt (mAt ms k).t.slots j] = preR ms k (j + 1) := by
  unfold preR
  rw [List.take_add_one, rAt_get hj, List.append_assoc]
  rfl
theorem preR_next {ms : List MTh} {k j : Nat} (hk : k < ms.length) (hj : (mAt ms k).t.slots.length ≤ j) : preR ms k j = allR (ms.take (k + 1)) := by
  unfold preR allR
  rw [List.take_add_one, mAt_get hk, List.take_of_length_le hj, List.flatMap_append]
  simp
theorem allR_split {ms : List MTh} {k : Nat} (hk : k < ms.length) : allR ms = allR (ms.take k) ++ ((mAt ms k).t.slots ++ allR (ms.drop (k + 1))) := by
  unfold allR
  conv => lhs; rw [← List.take_append_drop k ms, List.flatMap_append, drop_split (mAt_get hk), List.flatMap_cons]
theorem preR_prefix {ms : List MTh} {k j : Nat} (hk : k < ms.length) : preR ms k j <+: allR ms := by
  rw [allR_split hk]
  unfold preR
  refine List.prefix_append_right_inj _ |>.2 ?_
  exact (List.take_prefix _ _).trans (List.prefix_append _ _)
theorem preR_lt {ms : List MTh} {k j : Nat} (hk : k < ms.length) (hj : j < (mAt ms k).t.slots.length) : (preR ms k j).length < (allR ms).length := by
  rw [allR_split hk]
  unfold preR
  simp only [List.length_append, List.length_take]
  omega
theorem allR_take {ms : List MTh} {k : Nat} (hk : ms.length ≤ k) : allR (ms.take k) = allR ms := by rw [List.take_of_length_le hk]
theorem gate_i {ms : List MTh} {t : Th} : (decide (t.kind = 5) && !kindAt (tabT ms) t.to 1) = !gateOk (tabT ms) t := by
  unfold gateOk
  cases decide (t.kind = 5) <;> simp
def headOk (ts : List Th) (t : Th) : Bool := thingOk t && gateOk ts t
theorem tabi_len {ms : List MTh} (h : inR (ms.length : Int) 1 8 = false) : tableOk (tabT ms) = false := by
  unfold tableOk
  rw [tabT_len, h]
  rfl
theorem tabi_no {ms : List MTh} {k : Nat} (hk : k < ms.length) (h : headOk (tabT ms) (mAt ms k).t = false) : tableOk (tabT ms) = false := by
  have h1 : (tabT ms).all (fun t => thingOk t && gateOk (tabT ms) t) = false := all_false_of (p := headOk (tabT ms)) (tab_at hk) h
  unfold tableOk
  rw [h1, Bool.false_and, Bool.and_false]
theorem tabi_yes {ms : List MTh} {k : Nat} (hl : inR (ms.length : Int) 1 8 = true) (h : ((tabT ms).take k).all (headOk (tabT ms)) = true) (hk : ms.length ≤ k) : tableOk (tabT ms) = (allR ms).all (rightTo (tabT ms)) := by
  have h1 : (tabT ms).all (fun t => thingOk t && gateOk (tabT ms) t) = true := all_of_take (p := headOk (tabT ms)) h (by rw [tabT_len]; exact hk)
  unfold tableOk
  rw [h1, tabT_len, hl, Bool.true_and, Bool.true_and]
  generalize rightTo (tabT ms) = p
  unfold tabT allR
  rw [List.all_map, List.all_flatMap]
  rfl
theorem rightTo_z {ts : List Th} {r : Rt} (h : decide (r.th = 0) = true) : rightTo ts r = true := by unfold rightTo; rw [h]; rfl
theorem rightTo_i {ms : List MTh} {r : Rt} (h : decide (r.th = 0) = false) : ((!inR r.th 1 (ms.length : Int)) || (decide ((mAt ms (r.th - 1).toNat).t.ve < r.ve))) = !rightTo (tabT ms) r := by
  unfold rightTo
  rw [h, Bool.false_or, mAt_th, tabT_len]
  cases inR r.th 1 (ms.length : Int)
  · rfl
  · have e : decide ((thAt (tabT ms) r.th).ve < r.ve) = !decide (r.ve ≤ (thAt (tabT ms) r.th).ve) := by
      rw [Bool.eq_iff_iff]; simp
    simp only [e, Bool.not_true, Bool.false_or, Bool.true_and]
theorem all_prefix {p : Rt → Bool} {a b : List Rt} (h : a <+: b) (ha : a.all p = false) : b.all p = false := by
  obtain ⟨c, rfl⟩ := h
  rw [List.all_append, ha, Bool.false_and]
end Go.Dw
end
section
namespace Go.Dw
def Cl.zero : Cl := ⟨0, 0, 0, 0, 0⟩
end Go.Dw
end
section
namespace Go.Dw
structure Keeps (lo : Nat) (K : List TypeId) (w w' : World) : Prop where
  os : w'.os = w.os
  tape : w'.tape = w.tape
  output : w'.output = w.output
  size : w.heap.size ≤ w'.heap.size
  block : ∀ k, k < w.heap.size → (k < lo ∨ ∀ cs T p, w.heap[k]? = some (.cells cs T p) → T ∉ K) → w'.heap[k]? = w.heap[k]?
section
variable {lo : Nat} {K : List TypeId} {w w1 w2 : World}
theorem Keeps.of0 (hg : w.grownBy w1 none) : Keeps lo K w w1 := ⟨hg.os, hg.tape, hg.output, hg.size, fun k hk _ => hg.block k hk (by simp)⟩
theorem Keeps.refl (w : World) : Keeps lo K w w := Keeps.of0 (World.grownBy.refl w none)
theorem Keeps.trans (h : Keeps lo K w w1) (k : Keeps lo K w1 w2) : Keeps lo K w w2 :=
  ⟨k.os.trans h.os, k.tape.trans h.tape, k.output.trans h.output, Nat.le_trans h.size k.size, fun b hb hc => by
    have h1 := h.block b hb hc
    exact (k.block b (Nat.lt_of_lt_of_le hb h.size) (by rcases hc with h2 | h2; exact Or.inl h2; exact Or.inr (fun cs T p e => h2 cs T p (h1.symm.trans e)))).trans h1⟩
theorem Keeps.low (h : Keeps lo K w w1) (hg : w1.grownBy w2 none) : Keeps lo K w w2 := h.trans (Keeps.of0 hg)
theorem Keeps.put {B : Nat} {T : TypeId} {cs : Array Value} (h : Keeps lo K w w1) (hg : w1.grownBy w2 (some B)) (hb : Blk w1 B T cs) (hT : T ∈ K) (hl : lo ≤ B) : Keeps lo K w w2 := h.trans
  ⟨hg.os, hg.tape, hg.output, hg.size, fun k hk hc => hg.block k hk (by
    intro e
    have e : k = B := by simpa using e
    subst e
    rcases hc with h2 | h2
    · omega
    · exact h2 cs T (0, 0) hb hT)⟩
theorem Keeps.own {B sz cap n : Nat} {T : TypeId} {vs : List Value} (h : Keeps lo K w w1) (hg : w1.grownBy w2 (some B)) (ho : Own w1 B T sz cap n vs) (hT : T ∈ K) (hl : lo ≤ B) : Keeps lo K w w2 :=
  let ⟨_, _, hb, _⟩ := ho.blk; h.put hg hb hT hl
theorem Keeps.new {B : Nat} (h : Keeps lo K w w1) (hg : w1.grownBy w2 (some B)) (hl : w.heap.size ≤ B) : Keeps lo K w w2 :=
  ⟨hg.os.trans h.os, hg.tape.trans h.tape, hg.output.trans h.output, Nat.le_trans h.size hg.size, fun k hk hc => (hg.block k (Nat.lt_of_lt_of_le hk h.size) (some_ne (show k ≠ B by omega))).trans (h.block k hk hc)⟩
theorem Keeps.grown {r : Option Nat} (hg : w.grownBy w1 r) (h : Keeps lo K w1 w2) (hl : w.heap.size ≤ lo) : w.grownBy w2 r :=
  ⟨h.os.trans hg.os, h.tape.trans hg.tape, h.output.trans hg.output, Nat.le_trans hg.size h.size, fun k hk hr => (h.block k (Nat.lt_of_lt_of_le hk hg.size) (Or.inl (by omega))).trans (hg.block k hk hr)⟩
theorem Own.full {α : Type} {g : α → List Value} {B sz n : Nat} {T : TypeId} {ys : List α} (h : Own w B T sz n n (ys.flatMap g)) : Blk w B T (ys.flatMap g).toArray := by
  obtain ⟨_, cur, hb, _, _, h4, h5⟩ := h.blk
  have : cur = (ys.flatMap g).toArray := by
    rw [← h5, List.take_of_length_le (by rw [Array.length_toList, h4]; exact Nat.le_refl _)]
  rw [← this]; exact hb
end
section
variable {l sz cap n : Nat} {a : Option Addr} {U : TypeId} {us : List Value} {w w1 w2 : World}
end
structure RowS (TR TI lo : Nat) (w : World) (m : MTh) : Prop where
  s : ∃ (S : Nat) (xs : List Rt), m.sa = some ⟨S, 0, none⟩ ∧ lo ≤ S ∧ m.sc = m.t.slots.length ∧ xs.length = m.t.slots.length ∧ Blk w S TR (xs.flatMap Rt.cells).toArray
  q : ∃ (S : Nat) (xs : List Int), m.qa = some ⟨S, 0, none⟩ ∧ lo ≤ S ∧ m.qc = m.t.queue.length ∧ xs.length = m.t.queue.length ∧ Blk w S TI (xs.flatMap icell).toArray
  ls : m.t.slots.length ≤ 1048576
  lq : m.t.queue.length ≤ 1048576
def RowsS (TR TI lo : Nat) (w : World) (ms : List MTh) : Prop := ∀ m ∈ ms, RowS TR TI lo w m
theorem blk_ne {w : World} {b c : Nat} {T U : TypeId} {cs ds : Array Value} (h : Blk w b T cs) (k : Blk w c U ds) (hT : T ≠ U) : b ≠ c := fun e => by
  subst e
  have h1 : some (Obj.cells cs T (0, 0)) = some (Obj.cells ds U (0, 0)) := Eq.trans (Eq.symm h) k
  simp only [Option.some.injEq, Obj.cells.injEq] at h1
  exact hT h1.2.1
section
variable {TR TI lo : Nat} {w w' : World} {m : MTh} {ms : List MTh}
theorem RowS.step {b : Nat} {U : TypeId} {ds : Array Value} (h : RowS TR TI lo w m) (hg : w.grownBy w' (some b)) (k : Blk w b U ds) (h1 : TR ≠ U) (h2 : TI ≠ U) : RowS TR TI lo w' m := by
  obtain ⟨⟨S, xs, a1, a2, a3, a4, a5⟩, ⟨Q, ys, b1, b2, b3, b4, b5⟩, h3, h4⟩ := h
  exact ⟨⟨S, xs, a1, a2, a3, a4, a5.grown hg (some_ne (blk_ne a5 k h1))⟩, ⟨Q, ys, b1, b2, b3, b4, b5.grown hg (some_ne (blk_ne b5 k h2))⟩, h3, h4⟩
theorem RowS.low (h : RowS TR TI lo w m) (hg : w.grownBy w' none) : RowS TR TI lo w' m := by
  obtain ⟨⟨S, xs, a1, a2, a3, a4, a5⟩, ⟨Q, ys, b1, b2, b3, b4, b5⟩, h3, h4⟩ := h
  exact ⟨⟨S, xs, a1, a2, a3, a4, a5.grown0 hg⟩, ⟨Q, ys, b1, b2, b3, b4, b5.grown0 hg⟩, h3, h4⟩
theorem RowS.mono {lo' : Nat} (h : RowS TR TI lo w m) (hl : lo' ≤ lo) : RowS TR TI lo' w m := by
  obtain ⟨⟨S, xs, a1, a2, a3, a4, a5⟩, ⟨Q, ys, b1, b2, b3, b4, b5⟩, h3, h4⟩ := h
  exact ⟨⟨S, xs, a1, Nat.le_trans hl a2, a3, a4, a5⟩, ⟨Q, ys, b1, Nat.le_trans hl b2, b3, b4, b5⟩, h3, h4⟩
theorem RowsS.low (h : RowsS TR TI lo w ms) (hg : w.grownBy w' none) : RowsS TR TI lo w' ms := fun m hm => (h m hm).low hg
theorem RowsS.own {b sz cap n : Nat} {U : TypeId} {vs : List Value} (h : RowsS TR TI lo w ms) (hg : w.grownBy w' (some b)) (k : Own w b U sz cap n vs) (h1 : TR ≠ U) (h2 : TI ≠ U) : RowsS TR TI lo w' ms := fun m hm => let ⟨_, _, hb, _⟩ := k.blk; (h m hm).step hg hb h1 h2
theorem own_blk_ne {b c sz cap n : Nat} {T U : TypeId} {vs : List Value} {ds : Array Value} (h : Own w b T sz cap n vs) (k : Blk w c U ds) (hT : T ≠ U) : b ≠ c := let ⟨_, _, hb, _⟩ := h.blk; blk_ne hb k hT
theorem RowsS.at (h : RowsS TR TI lo w ms) {i : Nat} (hi : i < ms.length) : RowS TR TI lo w (mAt ms i) := h _ (List.mem_of_getElem? (mAt_get hi))
theorem RowsS.set (h : RowsS TR TI lo w ms) {i : Nat} (hi : i < ms.length) {m' : MTh} (hq : m'.qa = (mAt ms i).qa ∧ m'.qc = (mAt ms i).qc ∧ m'.t.queue = (mAt ms i).t.queue) (hs : m'.sa = (mAt ms i).sa ∧ m'.sc = (mAt ms i).sc ∧ m'.t.slots = (mAt ms i).t.slots) : RowsS TR TI lo w (ms.set i m') := fun x hx => by
  rcases List.mem_or_eq_of_mem_set hx with h1 | rfl
  · exact h x h1
  · have h0 := h.at hi
    obtain ⟨h1, h2, h3⟩ := hq
    obtain ⟨h4, h5, h6⟩ := hs
    refine ⟨?_, ?_, ?_, ?_⟩
    · rw [h4, h5, h6]; exact h0.s
    · rw [h1, h2, h3]; exact h0.q
    · rw [h6]; exact h0.ls
    · rw [h3]; exact h0.lq
end
end Go.Dw
end
section
namespace Go.Dw
def sees (ts : List Th) (run thing : Int) : Bool := flow (thAt ts thing).lab (thAt ts run).lab
def live (ts : List Th) (r : Rt) : Bool := inR r.th 1 (ts.length : Int) && decide ((thAt ts r.th).ve = r.ve)
section
variable {ms : List MTh} {q : Cl}
end
end Go.Dw
end
section
namespace Go.Dw
section
variable {ts : List Th} {k : Int} {t t' : Th}
theorem row_of (hT : tableOk ts = true) {s : Th} (hs : s ∈ ts) : thingOk s = true ∧ gateOk ts s = true ∧ ∀ r ∈ s.slots, rightTo ts r = true := by
  rw [tableOk_rows] at hT
  have h1 := List.all_eq_true.1 (Bool.and_eq_true_iff.1 hT).2 s hs
  unfold rowOk at h1
  rw [Bool.and_eq_true, Bool.and_eq_true] at h1
  exact ⟨h1.1.1, h1.1.2, fun r hr => List.all_eq_true.1 h1.2 r hr⟩
end
end Go.Dw
end
section
namespace Go.Dw
structure KeepsI (lo hi : Nat) (K : List TypeId) (w w' : World) : Prop where
  os : w'.os = w.os
  tape : w'.tape = w.tape
  output : w'.output = w.output
  size : w.heap.size ≤ w'.heap.size
  block : ∀ k, k < w.heap.size → (k < lo ∨ hi ≤ k ∨ ∀ cs T p, w.heap[k]? = some (.cells cs T p) → T ∉ K) → w'.heap[k]? = w.heap[k]?
section
variable {lo hi : Nat} {K : List TypeId} {w w1 w2 : World}
theorem KeepsI.of0 (hg : w.grownBy w1 none) : KeepsI lo hi K w w1 := ⟨hg.os, hg.tape, hg.output, hg.size, fun k hk _ => hg.block k hk (by simp)⟩
theorem KeepsI.refl (w : World) : KeepsI lo hi K w w := KeepsI.of0 (World.grownBy.refl w none)
theorem KeepsI.trans (h : KeepsI lo hi K w w1) (k : KeepsI lo hi K w1 w2) : KeepsI lo hi K w w2 :=
  ⟨k.os.trans h.os, k.tape.trans h.tape, k.output.trans h.output, Nat.le_trans h.size k.size, fun b hb hc => by
    have h1 := h.block b hb hc
    exact (k.block b (Nat.lt_of_lt_of_le hb h.size) (by rcases hc with h2 | h2 | h2; exact Or.inl h2; exact Or.inr (Or.inl h2); exact Or.inr (Or.inr (fun cs T p e => h2 cs T p (h1.symm.trans e))))).trans h1⟩
theorem KeepsI.low (h : KeepsI lo hi K w w1) (hg : w1.grownBy w2 none) : KeepsI lo hi K w w2 := h.trans (KeepsI.of0 hg)
theorem KeepsI.own {B sz cap n : Nat} {T : TypeId} {vs : List Value} (h : KeepsI lo hi K w w1) (hg : w1.grownBy w2 (some B)) (ho : Own w1 B T sz cap n vs) (hT : T ∈ K) (hl : lo ≤ B) (hh : B < hi) : KeepsI lo hi K w w2 := h.trans
  ⟨hg.os, hg.tape, hg.output, hg.size, fun k hk hc => hg.block k hk (by
    intro e
    have e : k = B := by simpa using e
    subst e
    obtain ⟨_, cs, hb, _⟩ := ho.blk
    rcases hc with h2 | h2 | h2
    · omega
    · omega
    · exact h2 cs T (0, 0) hb hT)⟩
theorem KeepsI.new {B : Nat} (h : KeepsI lo hi K w w1) (hg : w1.grownBy w2 (some B)) (hl : w.heap.size ≤ B) : KeepsI lo hi K w w2 :=
  ⟨hg.os.trans h.os, hg.tape.trans h.tape, hg.output.trans h.output, Nat.le_trans h.size hg.size, fun k hk hc => (hg.block k (Nat.lt_of_lt_of_le hk h.size) (some_ne (show k ≠ B by omega))).trans (h.block k hk hc)⟩
theorem KeepsI.grown {r : Option Nat} (hg : w.grownBy w1 r) (h : KeepsI lo hi K w1 w2) (hl : w.heap.size ≤ lo) : w.grownBy w2 r :=
  ⟨h.os.trans hg.os, h.tape.trans hg.tape, h.output.trans hg.output, Nat.le_trans hg.size h.size, fun k hk hr => (h.block k (Nat.lt_of_lt_of_le hk hg.size) (Or.inl (by omega))).trans (hg.block k hk hr)⟩
theorem Blk.keepsI {b : Nat} {T : TypeId} {cs : Array Value} (h : Blk w b T cs) (hk : KeepsI lo hi K w w1) (ht : b < lo ∨ hi ≤ b ∨ T ∉ K) : Blk w1 b T cs := by
  have h1 : w.heap[b]? = some (.cells cs T (0, 0)) := h
  refine (hk.block b h.lt ?_).trans h1
  rcases ht with h2 | h2 | h2
  · exact Or.inl h2
  · exact Or.inr (Or.inl h2)
  · refine Or.inr (Or.inr (fun cs' T' p e => ?_))
    have := h1.symm.trans e
    simp only [Option.some.injEq, Obj.cells.injEq] at this
    rw [← this.2.1]; exact h2
theorem Own.keepsI {B sz cap n : Nat} {T : TypeId} {vs : List Value} (h : Own w B T sz cap n vs) (hk : KeepsI lo hi K w w1) (ht : B < lo ∨ hi ≤ B ∨ T ∉ K) : Own w1 B T sz cap n vs := by
  obtain ⟨h1, cur, hb, h2, h3, h4, h5⟩ := h.blk
  exact Own.ofBlk h1 (hb.keepsI hk ht) h2 h3 h4 h5
end
structure RowO (TR TI lo : Nat) (w : World) (m : MTh) : Prop where
  s : OwnN lo w m.sa TR 5 m.sc m.t.slots.length (m.t.slots.flatMap Rt.cells)
  q : OwnN lo w m.qa TI 1 m.qc m.t.queue.length (m.t.queue.flatMap icell)
structure RowsO (TR TI lo : Nat) (w : World) (ms : List MTh) : Prop where
  row : ∀ m ∈ ms, RowO TR TI lo w m
  apart : ∀ i j S, i < ms.length → j < ms.length → i ≠ j → (mAt ms i).sa = some ⟨S, 0, none⟩ → (mAt ms j).sa ≠ some ⟨S, 0, none⟩
def HiO (hi : Nat) (ms : List MTh) : Prop := ∀ m ∈ ms, ∀ c, (m.sa = some ⟨c, 0, none⟩ ∨ m.qa = some ⟨c, 0, none⟩) → c < hi
section
variable {TR TI lo : Nat} {w w' : World} {m : MTh} {ms : List MTh}
theorem OwnN.typB {l : Nat} {a : Option Addr} {T U : TypeId} {sz cap n B : Nat} {vs : List Value} {cs : Array Value} (h : OwnN l w a T sz cap n vs) (hg : w.grownBy w' (some B)) (k : Blk w B U cs) (hT : T ≠ U) : OwnN l w' a T sz cap n vs := by
  rcases h.form with ⟨rfl, rfl, rfl, rfl⟩ | ⟨C, rfl, h2, _, h3⟩
  · exact OwnN.nil
  · exact OwnN.of (h3.grown hg (some_ne (own_blk_ne h3 k hT))) h2
theorem RowO.low (h : RowO TR TI lo w m) (hg : w.grownBy w' none) : RowO TR TI lo w' m := ⟨h.s.grown0 hg, h.q.grown0 hg⟩
theorem RowO.lt {R : Nat} (h : RowO TR TI lo w m) (hg : w.grownBy w' (some R)) (hR : R < lo) : RowO TR TI lo w' m := ⟨h.s.grown_lt hg hR, h.q.grown_lt hg hR⟩
theorem RowO.typ {B U sz cap n : Nat} {us : List Value} (h : RowO TR TI lo w m) (hg : w.grownBy w' (some B)) (k : Own w B U sz cap n us) (h1 : TR ≠ U) (h2 : TI ≠ U) : RowO TR TI lo w' m := ⟨h.s.typ hg k h1, h.q.typ hg k h2⟩
theorem RowO.mono {lo' : Nat} (h : RowO TR TI lo w m) (hl : lo' ≤ lo) : RowO TR TI lo' w m := ⟨h.s.mono hl, h.q.mono hl⟩
theorem RowO.th (h : RowO TR TI lo w m) : ThAt w m := ⟨OwnN.sl wide_rt (by omega) h.s, OwnN.sl wide_int (by omega) h.q, OwnN.cap0 h.s, OwnN.cap0 h.q⟩
theorem RowO.g (h : RowO TR TI lo w m) : ThG lo w m := ⟨SlG.ownN wide_rt (by omega) h.s, SlG.ownN wide_int (by omega) h.q, OwnN.cap0 h.s, OwnN.cap0 h.q⟩
theorem RowsO.low (h : RowsO TR TI lo w ms) (hg : w.grownBy w' none) : RowsO TR TI lo w' ms := ⟨fun m hm => (h.row m hm).low hg, h.apart⟩
theorem RowsO.lt {R : Nat} (h : RowsO TR TI lo w ms) (hg : w.grownBy w' (some R)) (hR : R < lo) : RowsO TR TI lo w' ms := ⟨fun m hm => (h.row m hm).lt hg hR, h.apart⟩
theorem RowsO.own {B U sz cap n : Nat} {us : List Value} (h : RowsO TR TI lo w ms) (hg : w.grownBy w' (some B)) (k : Own w B U sz cap n us) (h1 : TR ≠ U) (h2 : TI ≠ U) : RowsO TR TI lo w' ms := ⟨fun m hm => (h.row m hm).typ hg k h1 h2, h.apart⟩
theorem RowsO.typB {B : Nat} {U : TypeId} {cs : Array Value} (h : RowsO TR TI lo w ms) (hg : w.grownBy w' (some B)) (k : Blk w B U cs) (h1 : TR ≠ U) (h2 : TI ≠ U) : RowsO TR TI lo w' ms := ⟨fun m hm => ⟨(h.row m hm).s.typB hg k h1, (h.row m hm).q.typB hg k h2⟩, h.apart⟩
theorem RowsO.mono {lo' : Nat} (h : RowsO TR TI lo w ms) (hl : lo' ≤ lo) : RowsO TR TI lo' w ms := ⟨fun m hm => (h.row m hm).mono hl, h.apart⟩
theorem RowsO.ge {b hi : Nat} (h : RowsO TR TI lo w ms) (hg : w.grownBy w' (some b)) (hH : HiO hi ms) (hb : hi ≤ b) : RowsO TR TI lo w' ms :=
  ⟨fun m hm => ⟨(h.row m hm).s.grown hg (fun B e => some_ne (by have := hH m hm B (Or.inl e); omega)), (h.row m hm).q.grown hg (fun B e => some_ne (by have := hH m hm B (Or.inr e); omega))⟩, h.apart⟩
theorem ownN_hi {T sz cap n lo c : Nat} {a : Option Addr} {vs : List Value} (h : OwnN lo w a T sz cap n vs) (e : a = some ⟨c, 0, none⟩) : c < w.heap.size ∧ lo ≤ c := by
  rcases h.form with ⟨e2, _⟩ | ⟨B, e2, h2, h3, _⟩
  · rw [e2] at e; cases e
  · rw [e2] at e
    simp only [Option.some.injEq, Addr.mk.injEq, and_true] at e
    omega
theorem RowsO.hi (h : RowsO TR TI lo w ms) : HiO w.heap.size ms := fun m hm c hc => by
  rcases hc with e | e
  · exact (ownN_hi (h.row m hm).s e).1
  · exact (ownN_hi (h.row m hm).q e).1
theorem RowsO.at (h : RowsO TR TI lo w ms) {i : Nat} (hi : i < ms.length) : RowO TR TI lo w (mAt ms i) := h.row _ (List.mem_of_getElem? (mAt_get hi))
theorem RowsO.tab {B T cap : Nat} (h : RowsO TR TI lo w ms) (ho : Own w B T 8 cap ms.length (ms.flatMap MTh.cells)) : TabAt w (some ⟨B, 0, none⟩) ms := ⟨Own.sl wide_mth ho, fun m hm => (h.row m hm).th⟩
theorem RowsO.nil : RowsO TR TI lo w [] := ⟨(fun m hm => by cases hm), fun i j S hi => absurd hi (Nat.not_lt_zero _)⟩
theorem mAt_set {i j : Nat} (hi : i < ms.length) : mAt (ms.set i m) j = if j = i then m else mAt ms j := by
  unfold mAt
  rw [List.getD_eq_getElem?_getD, List.getD_eq_getElem?_getD, List.getElem?_set]
  by_cases e : j = i
  · subst e
    rw [if_pos rfl, if_pos rfl, if_pos hi]
    rfl
  · rw [if_neg e, if_neg (by omega)]
theorem mAt_snoc {j : Nat} (hj : j < (ms ++ [m]).length) : mAt (ms ++ [m]) j = if j = ms.length then m else mAt ms j := by
  have hj' : j ≤ ms.length := by rw [List.length_append, List.length_singleton] at hj; omega
  unfold mAt
  rw [List.getD_eq_getElem?_getD, List.getD_eq_getElem?_getD]
  by_cases e : j = ms.length
  · subst e
    rw [if_pos rfl, List.getElem?_append_right (Nat.le_refl _), Nat.sub_self]
    rfl
  · rw [if_neg e, List.getElem?_append_left (by omega)]
theorem RowsO.snoc {hi : Nat} (h : RowsO TR TI lo w ms) (hm : RowO TR TI lo w m) (hH : HiO hi ms) (hS : ∀ S, m.sa = some ⟨S, 0, none⟩ → hi ≤ S) : RowsO TR TI lo w (ms ++ [m]) := by
  refine ⟨fun x hx => ?_, fun i j S hi' hj hne => ?_⟩
  · rcases List.mem_append.1 hx with h1 | h1
    · exact h.row x h1
    · simp at h1; subst h1; exact hm
  · rw [mAt_snoc hi', mAt_snoc hj]
    rw [List.length_append, List.length_singleton] at hi' hj
    split
    · rename_i e1
      rw [if_neg (by omega)]
      intro e2 e3
      have h1 := hS S e2
      have h2 := hH _ (List.mem_of_getElem? (mAt_get (show j < ms.length by omega))) S (Or.inl e3)
      omega
    · rename_i e1
      split
      · intro e2 e3
        have h1 := hS S e3
        have h2 := hH _ (List.mem_of_getElem? (mAt_get (show i < ms.length by omega))) S (Or.inl e2)
        omega
      · exact h.apart i j S (by omega) (by omega) hne
theorem RowsO.setr {i : Nat} (h : RowsO TR TI lo w ms) (hi : i < ms.length) {m' : MTh} (hm : RowO TR TI lo w m') (hS : ∀ S, m'.sa = some ⟨S, 0, none⟩ → (mAt ms i).sa = some ⟨S, 0, none⟩ ∨ ∀ x ∈ ms, x.sa ≠ some ⟨S, 0, none⟩) : RowsO TR TI lo w (ms.set i m') := by
  refine ⟨fun x hx => ?_, fun a b S ha hb hne => ?_⟩
  · rcases List.mem_or_eq_of_mem_set hx with h1 | rfl
    · exact h.row x h1
    · exact hm
  · rw [List.length_set] at ha hb
    rw [mAt_set hi, mAt_set hi]
    split
    · rename_i e1
      rw [if_neg (by omega)]
      intro e2
      rcases hS S e2 with h1 | h1
      · exact h.apart i b S hi hb (by omega) h1
      · exact h1 _ (List.mem_of_getElem? (mAt_get hb))
    · rename_i e1
      split
      · intro e2 e3
        rcases hS S e3 with h1 | h1
        · exact h.apart a i S ha hi (by omega) e2 h1
        · exact h1 _ (List.mem_of_getElem? (mAt_get ha)) e2
      · exact h.apart a b S ha hb hne
theorem RowsO.set {i : Nat} (h : RowsO TR TI lo w ms) (hi : i < ms.length) {m' : MTh} (hq : m'.qa = (mAt ms i).qa ∧ m'.qc = (mAt ms i).qc ∧ m'.t.queue = (mAt ms i).t.queue) (hs : m'.sa = (mAt ms i).sa ∧ m'.sc = (mAt ms i).sc ∧ m'.t.slots = (mAt ms i).t.slots) : RowsO TR TI lo w (ms.set i m') := by
  obtain ⟨h1, h2, h3⟩ := hq
  obtain ⟨h4, h5, h6⟩ := hs
  refine h.setr hi ⟨?_, ?_⟩ fun S e => Or.inl (by rw [← h4]; exact e)
  · rw [h4, h5, h6]; exact (h.at hi).s
  · rw [h1, h2, h3]; exact (h.at hi).q
end
def putS (m : MTh) (j : Nat) (x : Rt) : MTh := { m with t := { m.t with slots := m.t.slots.set j x } }
def putT (ms : List MTh) (i j : Nat) (x : Rt) : List MTh := ms.set i (putS (mAt ms i) j x)
theorem putT_len {ms : List MTh} {i j : Nat} {x : Rt} : (putT ms i j x).length = ms.length := List.length_set ..
theorem RowsO.put {TR TI lo : Nat} {w w' : World} {ms : List MTh} {i k S cap : Nat} {x : Rt} (h : RowsO TR TI lo w ms) (hi : i < ms.length) (hS : (mAt ms i).sa = some ⟨S, 0, none⟩) (hl : lo ≤ S)
    (ho : Own w S TR 5 cap (mAt ms i).t.slots.length ((mAt ms i).t.slots.flatMap Rt.cells)) (hc : cap = (mAt ms i).sc) (hO : Own w' S TR 5 cap ((mAt ms i).t.slots.set k x).length (((mAt ms i).t.slots.set k x).flatMap Rt.cells)) (hg : w.grownBy w' (some S)) (hT : TI ≠ TR) : RowsO TR TI lo w' (putT ms i k x) := by
  subst hc
  refine ⟨fun y hy => ?_, fun a b Z ha hb hne => ?_⟩
  · obtain ⟨j, hj, e⟩ := List.getElem_of_mem hy
    have hy' : y = mAt (putT ms i k x) j := by
      unfold mAt
      rw [List.getD_eq_getElem?_getD, List.getElem?_eq_getElem hj, e]
      rfl
    have hj' : j < ms.length := by rwa [putT_len] at hj
    unfold putT at hy'
    rw [mAt_set hi] at hy'
    split at hy'
    · subst hy'
      refine ⟨?_, (h.at hi).q.typ hg ho hT⟩
      show OwnN lo w' (mAt ms i).sa TR 5 (mAt ms i).sc _ _
      rw [hS]
      exact OwnN.of hO hl
    · rename_i e2
      subst hy'
      refine ⟨(h.at hj').s.grown hg (fun Z hZ => some_ne fun e3 => ?_), (h.at hj').q.typ hg ho hT⟩
      subst e3
      exact h.apart i j Z hi hj' (by omega) hS hZ
  · rw [putT_len] at ha hb
    have hsa : ∀ j, (mAt (putT ms i k x) j).sa = (mAt ms j).sa := fun j => by
      unfold putT
      rw [mAt_set hi]
      split
      · rename_i e; rw [e]; rfl
      · rfl
    rw [hsa, hsa]
    exact h.apart a b Z ha hb hne
end Go.Dw
end
