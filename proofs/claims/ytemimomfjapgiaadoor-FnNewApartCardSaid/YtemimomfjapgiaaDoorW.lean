/-
  A calculus of walks: frames as functions, one rule an operation; worlds are named, never written out. Nothing of the program stands here.
-/
import Derived.WalkKit
import Derived.Lib.Hide
import Derived.KernelRfl
import Derived.Orders
namespace Go.Dw
open Go.RowKit

abbrev Fr := Nat → Value
def up (f : Fr) (d : Nat) (v : Value) : Fr := fun i => bif Nat.beq i d then v else f i
theorem up_eq (f : Fr) (d : Nat) (v : Value) (i : Nat) : up f d v i = if i = d then v else f i := by
  unfold up
  by_cases h : i = d
  · subst h; simp
  · have : Nat.beq i d = false := by
      cases hb : Nat.beq i d with
      | false => rfl
      | true => exact absurd (Nat.eq_of_beq_eq_true hb) h
    simp [this, h]
def ev (f : Fr) : Operand → Value
  | .tmp t => f t
  | .const v => v
  | .global g => .pointer (some ⟨g, 0, none⟩)
  | .func k => .func (.func k) #[] #[]
structure FEq (n : Nat) (a : Act) (f : Fr) : Prop where
  defers : a.defers = []
  size : a.tmps.size = n
  at_ : ∀ i, a.tmps.getD i undef = f i
theorem FEq.eval {n : Nat} {a : Act} {f : Fr} (h : FEq n a f) : a.eval = ev f := by
  funext x
  cases x with
  | tmp t => exact h.at_ t
  | const v => rfl
  | global g => rfl
  | func k => rfl
theorem FEq.put {n : Nat} {a : Act} {f : Fr} (h : FEq n a f) {d : Nat} (hd : Nat.blt d n = true) (v : Value) : FEq n (a.put (some d) v) (up f d v) := by
  have hd' : d < n := by simpa [Nat.blt_eq] using hd
  refine ⟨h.defers, by simp [Act.put, h.size], fun i => ?_⟩
  rw [up_eq, ← h.at_ i]
  by_cases hi : i = d
  · subst hi
    simp [Act.put, Array.getD, h.size, hd']
  · have hne : d ≠ i := fun e => hi e.symm
    simp [Act.put, hi, Array.getElem?_setIfInBounds_ne hne]
def upo (f : Fr) : Option Nat → Value → Fr
  | some d, v => up f d v
  | none, _ => f
def okd (n : Nat) : Option Nat → Bool
  | some d => Nat.blt d n
  | none => true
theorem FEq.puto {n : Nat} {a : Act} {f : Fr} (h : FEq n a f) {d : Option Nat} (hd : okd n d = true) (v : Value) : FEq n (a.put d v) (upo f d v) := by
  cases d with
  | none => exact h
  | some d => exact h.put hd v

/-! ### code -/
def Wpf (P : Program) (n : Nat) (Q : Exit → Fr → World → Prop) (c : Code) (f : Fr) (w : World) : Prop :=
  ∀ a, FEq n a f → c.wp P (fun e a' w' => ∃ f', FEq n a' f' ∧ Q e f' w') a w
/-- What stands behind the end of a piece: 'K'; every other way out: 'Q'. -/
def thn (K : Fr → World → Prop) (Q : Exit → Fr → World → Prop) : Exit → Fr → World → Prop
  | .normal, f, w => K f w
  | e, f, w => Q e f w
def blk (id : Nat) (Q : Exit → Fr → World → Prop) : Exit → Fr → World → Prop
  | .exit i, f, w => if i = id then Q .normal f w else Q (.exit i) f w
  | e, f, w => Q e f w
section
variable {P : Program} {n : Nat} {Q : Exit → Fr → World → Prop} {f : Fr} {w : World}
theorem Wpf.mono {Q' : Exit → Fr → World → Prop} {c : Code} (h : Wpf P n Q c f w) (hq : ∀ e f w, Q e f w → Q' e f w) : Wpf P n Q' c f w :=
  fun a ha => wp_mono (h a ha) fun _ _ _ ⟨f', hf, hQ⟩ => ⟨f', hf, hq _ _ _ hQ⟩
theorem wpf_skip (h : Q .normal f w) : Wpf P n Q .skip f w := fun _ ha => wp_skip ⟨f, ha, h⟩
theorem wpf_label {l : Nat} (h : Q .normal f w) : Wpf P n Q (.label l) f w := fun _ ha => wp_label ⟨f, ha, h⟩
theorem wpf_ret (h : Q .ret f w) : Wpf P n Q .ret f w := fun _ ha => wp_ret ⟨f, ha, h⟩
theorem wpf_exit {id : Nat} (h : Q (.exit id) f w) : Wpf P n Q (.exit id) f w := fun _ ha => wp_exit ⟨f, ha, h⟩
theorem wpf_seq {x y : Code} (h : Wpf P n (thn (Wpf P n Q y) Q) x f w) : Wpf P n Q (.seq x y) f w := fun a ha =>
  wp_seq (wp_mono (h a ha) fun e a' w' ⟨f', hf, hQ⟩ => by
    cases e with
    | normal => exact hQ a' hf
    | exit i => exact ⟨f', hf, hQ⟩
    | goto l => exact ⟨f', hf, hQ⟩
    | ret => exact ⟨f', hf, hQ⟩
    | panic c => exact ⟨f', hf, hQ⟩
    | outgrown => exact ⟨f', hf, hQ⟩)
/-- A cut: what holds in between is said once. -/
theorem wpf_seq_mid {x y : Code} (M : Fr → World → Prop) (h : Wpf P n (thn M Q) x f w) (hM : ∀ f w, M f w → Wpf P n Q y f w) : Wpf P n Q (.seq x y) f w :=
  wpf_seq (h.mono fun e f w hq => by cases e <;> first | exact hM _ _ hq | exact hq)
theorem wpf_block {id : Nat} {c : Code} (h : Wpf P n (blk id Q) c f w) : Wpf P n Q (.block id c) f w := fun a ha =>
  wp_block (wp_mono (h a ha) fun e a' w' ⟨f', hf, hQ⟩ => by
    cases e with
    | exit i =>
      simp only [blk] at hQ
      simp only [Exit.inBlock]
      by_cases hi : i = id
      · rw [if_pos hi] at hQ ⊢; exact ⟨f', hf, hQ⟩
      · rw [if_neg hi] at hQ ⊢; exact ⟨f', hf, hQ⟩
    | normal => exact ⟨f', hf, hQ⟩
    | goto l => exact ⟨f', hf, hQ⟩
    | ret => exact ⟨f', hf, hQ⟩
    | panic c => exact ⟨f', hf, hQ⟩
    | outgrown => exact ⟨f', hf, hQ⟩)
theorem wpf_cond {c : Operand} {x y : Code} {b : Bool} (hc : ev f c = .bool b) (ht : b = true → Wpf P n Q x f w) (hf : b = false → Wpf P n Q y f w) :
    Wpf P n Q (.cond c x y) f w := fun a ha =>
  wp_cond_split (t := b) (by rw [ha.eval]; exact hc) (fun h => ht h a ha) (fun h => hf h a ha)
theorem wpf_condt {c : Operand} {x y : Code} {b : Bool} (hc : ev f c = .bool b) (hb : b = true) (h : Wpf P n Q x f w) : Wpf P n Q (.cond c x y) f w :=
  wpf_cond hc (fun _ => h) (fun e => by rw [hb] at e; cases e)
theorem wpf_condf {c : Operand} {x y : Code} {b : Bool} (hc : ev f c = .bool b) (hb : b = false) (h : Wpf P n Q y f w) : Wpf P n Q (.cond c x y) f w :=
  wpf_cond hc (fun e => by rw [hb] at e; cases e) (fun _ => h)
theorem wpf_loop {c : Code} (I : Fr → World → Prop) (μ : Fr → World → Nat) (h₀ : I f w)
    (round : ∀ f w, I f w → Wpf P n (thn (fun f' w' => I f' w' ∧ μ f' w' < μ f w) Q) c f w) : Wpf P n Q (.loop c) f w := fun a ha => by
  refine wp_loop (fun a w => ∃ f, FEq n a f ∧ I f w) (fun a w => μ (fun i => a.tmps.getD i undef) w) ⟨f, ha, h₀⟩ fun a w ⟨f, ha, hI⟩ => ?_
  have e1 : (fun i => a.tmps.getD i undef) = f := funext ha.at_
  rw [e1]
  refine wp_mono (round f w hI a ha) fun e a' w' ⟨f', hf, hQ⟩ => ?_
  cases e with
  | normal =>
    have e2 : (fun i => a'.tmps.getD i undef) = f' := funext hf.at_
    exact ⟨⟨f', hf, hQ.1⟩, by rw [e2]; exact hQ.2⟩
  | exit i => exact ⟨f', hf, hQ⟩
  | goto l => exact ⟨f', hf, hQ⟩
  | ret => exact ⟨f', hf, hQ⟩
  | panic c => exact ⟨f', hf, hQ⟩
  | outgrown => exact ⟨f', hf, hQ⟩
theorem thn_n {K : Fr → World → Prop} (h : K f w) : thn K Q .normal f w := h
theorem thn_r {K : Fr → World → Prop} (h : Q .ret f w) : thn K Q .ret f w := h
theorem thn_e {K : Fr → World → Prop} {i : Nat} (h : Q (.exit i) f w) : thn K Q (.exit i) f w := h
theorem blk_n {id : Nat} (h : Q .normal f w) : blk id Q .normal f w := h
theorem blk_r {id : Nat} (h : Q .ret f w) : blk id Q .ret f w := h
theorem blk_e {id : Nat} (h : Q .normal f w) : blk id Q (.exit id) f w := by simpa [blk] using h
theorem blk_x {id i : Nat} (hi : i ≠ id) (h : Q (.exit i) f w) : blk id Q (.exit i) f w := by simpa [blk, hi] using h
/-- A loop, its measure an index of the relation. -/
theorem wpf_loopN {c : Code} (I : Nat → Fr → World → Prop) (m₀ : Nat) (h₀ : I m₀ f w)
    (round : ∀ m f w, I m f w → Wpf P n (thn (fun f' w' => ∃ m', m' < m ∧ I m' f' w') Q) c f w) : Wpf P n Q (.loop c) f w := by
  intro a ha b k cs
  have key : ∀ m f a w, I m f w → FEq n a f →
      ∃ e a' w', (∃ f', FEq n a' f' ∧ Q e f' w') ∧ Arrives P (lone (b.at a (.code c :: .inLoop c :: k)) cs w) b k cs e a' w' := by
    intro m
    induction m using Nat.strongRecOn with
    | _ m ih =>
      intro f a w hI ha
      obtain ⟨e, a₁, w₁, ⟨f₁, hf₁, hq⟩, harr⟩ := round m f w hI a ha b (.inLoop c :: k) cs
      cases e with
      | normal =>
        obtain ⟨m', hlt, hI₁⟩ := hq
        obtain ⟨e₂, a₂, w₂, hq₂, harr₂⟩ := ih m' hlt f₁ a₁ w₁ hI₁ hf₁
        exact ⟨e₂, a₂, w₂, hq₂, .of_steps (Steps.trans harr (.one step_inLoop)) harr₂⟩
      | exit id => exact ⟨_, a₁, w₁, ⟨f₁, hf₁, hq⟩, .pass (x := .inLoop c) rfl (fun _ _ => .inl (by simp)) harr⟩
      | goto l => exact ⟨_, a₁, w₁, ⟨f₁, hf₁, hq⟩, .pass (x := .inLoop c) rfl (fun _ _ => .inl (by simp)) harr⟩
      | ret => exact ⟨_, a₁, w₁, ⟨f₁, hf₁, hq⟩, .pass (x := .inLoop c) rfl (fun _ _ => .inl (by simp)) harr⟩
      | panic ch => exact ⟨_, a₁, w₁, ⟨f₁, hf₁, hq⟩, .pass (x := .inLoop c) rfl (fun _ _ => .inl (by simp)) harr⟩
      | outgrown => exact ⟨_, a₁, w₁, ⟨f₁, hf₁, hq⟩, .pass (x := .inLoop c) rfl (fun _ _ => .inl (by simp)) harr⟩
  obtain ⟨e, a', w', hq, harr⟩ := key m₀ f a w h₀ ha
  exact ⟨e, a', w', hq, .of_steps (.one step_loop) harr⟩
end

/-! ### the call's frame -/
def lget : List Value → Nat → Value
  | [], _ => undef
  | v :: _, 0 => v
  | _ :: l, i + 1 => lget l i
theorem lget_eq : ∀ (l : List Value) (i : Nat), lget l i = l[i]?.getD undef
  | [], _ => by simp [lget]
  | v :: l, 0 => by simp [lget]
  | v :: l, i + 1 => by simp [lget, lget_eq l i]
def f0 (args : Array Value) : Fr := fun i => lget args.toList i
/-- What the results' cells and slots give. -/
def resV (P : Program) (fn : Func) (f : Fr) (w : World) (v : Value) : Prop := ∀ tmps : Array Value, (∀ i, tmps.getD i undef = f i) → (results fn tmps).run P w = .ok v w
def endQ (P : Program) (fn : Func) (R : Value → World → Prop) : Exit → Fr → World → Prop
  | .normal, f, w | .ret, f, w => ∃ v, resV P fn f w v ∧ R v w
  | _, _, _ => False
theorem calls_of_wpf {P : Program} {k : FuncId} {fn : Func} {c : Code} {args : Array Value} {w : World} {R : Value → World → Prop} {n : Nat}
    (hf : P.funcs[k]? = some fn) (hb : fn.body = some c) (hn : fn.ntmps = n) (hs : Nat.ble args.size n = true)
    (h : Wpf P n (endQ P fn R) c (f0 args) w) : Calls P k args w fun e w' => ∃ v, e = .returned v ∧ R v w' := by
  have hs' : args.size ≤ n := by simpa [Nat.ble_eq] using hs
  refine calls_of_wp hf hb ?_
  refine wp_mono (h _ ⟨rfl, by simp [hn]; omega, fun i => ?_⟩) fun e a w ⟨f', hf', hQ⟩ => ?_
  · simp only [f0, lget_eq, Array.getD_eq_getD_getElem?, Array.getElem?_toList]
    by_cases hi : i < args.size
    · rw [Array.getElem?_append_left hi]
    · rw [Array.getElem?_append_right (by omega), Array.getElem?_eq_none (by omega : args.size ≤ i)]
      by_cases h2 : i - args.size < fn.ntmps - args.size
      · simp [h2]
      · rw [Array.getElem?_eq_none (by simp; omega)]
  · cases e with
    | normal => obtain ⟨v, hv, hR⟩ := hQ; exact ⟨hf'.defers, v, hv _ hf'.at_, v, rfl, hR⟩
    | ret => obtain ⟨v, hv, hR⟩ := hQ; exact ⟨hf'.defers, v, hv _ hf'.at_, v, rfl, hR⟩
    | exit i => exact hQ.elim
    | goto l => exact hQ.elim
    | panic c => exact hQ.elim
    | outgrown => exact hQ.elim
theorem res0 {P : Program} {fn : Func} {f : Fr} {w : World} (h : fn.results = #[]) : resV P fn f w (.tuple #[]) := fun _ _ => results_none h _ _ _
theorem res1 {P : Program} {fn : Func} {f : Fr} {w : World} {t : Nat} {v : Value} (h : fn.results = #[.tmp t]) (hv : f t = v) : resV P fn f w v := fun tm ht => by
  rw [results_tmp h, ht, hv]
theorem res2 {P : Program} {fn : Func} {f : Fr} {w : World} {t u : Nat} {v x : Value} (h : fn.results = #[.tmp t, .tmp u]) (hv : f t = v) (hx : f u = x) : resV P fn f w (.tuple #[v, x]) := fun tm ht => by
  rw [results_tmp2 h, ht, ht, hv, hx]

/-! ### a list of operations -/
def WpO (P : Program) (n : Nat) (ops : Array Oper) (K : Fr → World → Prop) (l : List Oper) (f : Fr) (w : World) : Prop :=
  ∀ a, FEq n a f → ∀ Q : Exit → Act → World → Prop, (∀ a' w' f', FEq n a' f' → K f' w' → Q .normal a' w') → wpList P ops Q l a w
section
variable {P : Program} {n : Nat} {ops : Array Oper} {K : Fr → World → Prop} {l : List Oper} {f : Fr} {w w' : World} {o : Oper} {v : Value}
theorem WpO.mono {K' : Fr → World → Prop} (h : WpO P n ops K l f w) (hk : ∀ f w, K f w → K' f w) : WpO P n ops K' l f w :=
  fun a ha Q hQ => h a ha Q fun a' w' f' hf hK => hQ a' w' f' hf (hk _ _ hK)
theorem wpf_region {id : Nat} {Q : Exit → Fr → World → Prop} (h : WpO P n l.toArray (Q .normal) l f w) : Wpf P n Q (.region id l.toArray false) f w := fun a ha =>
  wp_region_lit (h a ha _ fun _ _ f' hf hK => ⟨f', hf, hK⟩)
theorem wpf_seq_region {id : Nat} {Q : Exit → Fr → World → Prop} {y : Code} (h : WpO P n l.toArray (Wpf P n Q y) l f w) : Wpf P n Q (.seq (.region id l.toArray false) y) f w :=
  wpf_seq (wpf_region h)
theorem wpf_seq_region_mid {id : Nat} {Q : Exit → Fr → World → Prop} {y : Code} (M : Fr → World → Prop) (h : WpO P n l.toArray M l f w) (hM : ∀ f w, M f w → Wpf P n Q y f w) : Wpf P n Q (.seq (.region id l.toArray false) y) f w :=
  wpf_seq_region (h.mono hM)
theorem wpf_region_mid {id : Nat} {Q : Exit → Fr → World → Prop} (M : Fr → World → Prop) (h : WpO P n l.toArray M l f w) (hM : ∀ f w, M f w → Q .normal f w) : Wpf P n Q (.region id l.toArray false) f w :=
  wpf_region (h.mono hM)
theorem wpo_nil (h : K f w) : WpO P n ops K [] f w := fun a ha _ hQ => hQ a w f ha h
theorem wpo_app {l l' : List Oper} (h : WpO P n ops (WpO P n ops K l') l f w) : WpO P n ops K (l ++ l') f w := by
  intro a ha Q hQ
  have h1 := h a ha (fun e a' w' => match e with | .normal => wpList P ops Q l' a' w' | _ => False) (fun a' w' f' hf hK => hK a' hf Q hQ)
  clear h ha
  induction l generalizing a w with
  | nil => exact h1
  | cons o l ih =>
    simp only [List.cons_append, wpList] at h1 ⊢
    split
    · rename_i hw
      rw [if_pos hw] at h1
      rcases h1 with h1 | ⟨_, a0, w0, h0⟩
      · left
        unfold Oper.wp at h1 ⊢
        generalize (execOp a.eval o).run P w = r at h1 ⊢
        cases r with
        | ok x w' =>
          cases x <;> simp only [Oper.upon] at h1 ⊢
          case value v => exact ih _ h1
          case skip => exact ih _ h1
          case defer dd => exact ih _ h1
          case enter k args =>
            refine h1.mono fun e w'' he => ?_
            cases e with
            | returned v => exact ih _ he
            | panicked c => exact he.elim
            | outgrown => obtain ⟨_, _, h0⟩ := he; exact h0.elim
          case row rw args => exact h1.mono fun v w'' he => ih _ he
        | halt x w' => cases x <;> simp only [Oper.upon] at h1 ⊢
      · exact h0.elim
    · rename_i hw
      rw [if_neg hw] at h1
      exact ih _ h1
/-- A value. -/
theorem wpo_val (hg : o.guard = none) (hd : okd n o.dst = true) (hr : (execOp (ev f) o).run P w = .ok (.value v) w') (h : WpO P n ops K l (upo f o.dst v) w') : WpO P n ops K (o :: l) f w :=
  fun a ha Q hQ => wpList_plain hg fun K' hK' => by
    unfold Oper.wp
    rw [ha.eval, hr]
    exact hK' _ _ (h _ (ha.puto hd v) Q hQ)
/-- A store: no value. -/
theorem wpo_unit (hg : o.guard = none) (hd : o.dst = none) (hr : (execOp (ev f) o).run P w = .ok .skip w') (h : WpO P n ops K l f w') : WpO P n ops K (o :: l) f w :=
  fun a ha Q hQ => wpList_plain hg fun K' hK' => by
    unfold Oper.wp
    rw [ha.eval, hr]
    refine hK' _ _ (h _ ?_ Q hQ)
    rw [hd]
    exact ha
/-- A call of a Go function. -/
theorem wpo_enter {k : FuncId} {args : Array Value} {R : Value → World → Prop} (hg : o.guard = none) (hd : okd n o.dst = true) (hr : (execOp (ev f) o).run P w = .ok (.enter k args) w')
    (hc : Calls P k args w' fun e w'' => ∃ v, e = .returned v ∧ R v w'') (h : ∀ v w'', R v w'' → WpO P n ops K l (upo f o.dst v) w'') : WpO P n ops K (o :: l) f w :=
  fun a ha Q hQ => wpList_plain hg fun K' hK' => by
    unfold Oper.wp
    rw [ha.eval, hr]
    show Calls P k args w' _
    refine hc.mono fun e w'' ⟨v, he, hR⟩ => ?_
    subst he
    exact hK' _ _ (h v w'' hR _ (ha.puto hd v) Q hQ)
theorem yielded_eq {a : Act} (ha : FEq n a f) {j d : Nat} {oj : Oper} (hj : ops[j]? = some oj) (hdj : oj.dst = some d) {b : Bool} (hb : f d = .bool b) : yielded ops a.tmps j = some b := by
  have h1 := ha.at_ d
  rw [hb] at h1
  have h2 : a.tmps[d]? = some (.bool b) := by
    cases h3 : a.tmps[d]? with
    | none => rw [Array.getD_eq_getD_getElem?, h3] at h1; cases h1
    | some v => rw [Array.getD_eq_getD_getElem?, h3] at h1; simpa using h1
  simp [yielded, hj, hdj, h2]
theorem yielded_undef {a : Act} (ha : FEq n a f) {j d : Nat} {oj : Oper} (hj : ops[j]? = some oj) (hdj : oj.dst = some d) (hb : f d = undef) : yielded ops a.tmps j = none := by
  have h1 := ha.at_ d
  rw [hb, Array.getD_eq_getD_getElem?] at h1
  simp only [yielded, hj, hdj, Option.bind_some]
  cases h3 : a.tmps[d]? with
  | none => rfl
  | some v =>
    rw [h3] at h1
    have : v = undef := h1
    subst this
    rfl
/-- The guard holds: the operation is carried out as one without. -/
theorem wpo_run {d : Option Nat} {op : Op} {ty : TypeId} {pos : String} {aft : Array Edge} {j dj : Nat} {b b' : Bool} {oj : Oper} (hj : ops[j]? = some oj) (hdj : oj.dst = some dj) (hb : f dj = .bool b') (hbb : b' = b)
    (h : WpO P n ops K (⟨d, op, ty, pos, aft, none⟩ :: l) f w) : WpO P n ops K (⟨d, op, ty, pos, aft, some (j, b)⟩ :: l) f w := fun a ha Q hQ => by
  have h1 := h a ha Q hQ
  unfold wpList at h1 ⊢
  rw [if_pos (by simp [Region.wanted])] at h1
  rw [if_pos (by simp [Region.wanted, yielded_eq ha hj hdj hb, hbb])]
  exact h1
/-- The guard says no: the operation is passed over. -/
theorem wpo_pass {d : Nat} {op : Op} {ty : TypeId} {pos : String} {aft : Array Edge} {j dj : Nat} {b b' : Bool} {oj : Oper} (hj : ops[j]? = some oj) (hdj : oj.dst = some dj) (hb : f dj = .bool b') (hbb : b' = !b)
    (hd : Nat.blt d n = true) (h : WpO P n ops K l (up f d undef) w) : WpO P n ops K (⟨some d, op, ty, pos, aft, some (j, b)⟩ :: l) f w := fun a ha Q hQ => by
  have h1 := h _ (ha.put hd undef) Q hQ
  unfold wpList
  rw [if_neg (by simp [Region.wanted, yielded_eq ha hj hdj hb, hbb])]
  exact h1
theorem wpo_passu {d : Nat} {op : Op} {ty : TypeId} {pos : String} {aft : Array Edge} {j dj : Nat} {b : Bool} {oj : Oper} (hj : ops[j]? = some oj) (hdj : oj.dst = some dj) (hb : f dj = undef)
    (hd : Nat.blt d n = true) (h : WpO P n ops K l (up f d undef) w) : WpO P n ops K (⟨some d, op, ty, pos, aft, some (j, b)⟩ :: l) f w := fun a ha Q hQ => by
  have h1 := h _ (ha.put hd undef) Q hQ
  unfold wpList
  rw [if_neg (by simp [Region.wanted, yielded_undef ha hj hdj hb])]
  exact h1
end
theorem b0 (x : Bool) : (x && true) = x := Bool.and_true x
theorem b1 (x : Bool) : (true && x) = x := Bool.true_and x
theorem b2 (x : Bool) : (x && false) = false := Bool.and_false x
theorem b3 (x : Bool) : (false && x) = false := Bool.false_and x
theorem b4 (x : Bool) : (x || true) = true := Bool.or_true x
theorem b5 (x : Bool) : (true || x) = true := Bool.true_or x
theorem b6 (x : Bool) : (x || false) = x := Bool.or_false x
theorem b7 (x : Bool) : (false || x) = x := Bool.false_or x
theorem b8 : (!true) = false := rfl
theorem b9 : (!false) = true := rfl
end Go.Dw
