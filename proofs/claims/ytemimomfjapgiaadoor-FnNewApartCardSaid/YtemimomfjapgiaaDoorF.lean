/-
  A range over a function: the calculus within a round, and of an iterator.
-/
import Derived.Test.YtemimomfjapgiaaDoorP
import Derived.RangeFuncNested
import Derived.RangeFuncCalls
import Derived.RangeFuncLeaves
import Derived.RangeFuncBound
import Derived.Shelf.Abstract
import Derived.LoopIn
import Derived.LoopNIn
import Derived.OrdersIn
namespace Go.Dw
set_option linter.unusedSimpArgs false
set_option linter.unusedVariables false
open Go.RowKit Go.Shelf
/-- The two fences of such a walk: everywhere, and within a round. -/
structure Wd (F : Fence) : Prop where
  fn : ∀ k, F.fn k
  calls : ∀ {n : Nat} {P : Program} {k : FuncId} {args : Array Value} {w : World} {R : Ending → World → Prop}, Calls P k args w R → CallsIn F n P k args w R
  rows : ∀ {n : Nat} {P : Program} {row : String} {args : Array Value} {w : World} {R : Value → World → Prop}, Rows P row args w R → RowsIn F n P row args w R
  depth : F.depth = none
theorem wd_wide : Wd Fence.wide :=
  ⟨fun _ => trivial, fun h => callsIn_wide.2 h, fun h => fun c cs _ => let ⟨v, w', r, s⟩ := h c cs; ⟨v, w', r, stepsIn_wide.2 s⟩, rfl⟩
theorem wd_round (l : Nat) : Wd (Fence.wide.inRound l) :=
  ⟨fun _ => trivial, fun h => CallsIn.inRound l (callsIn_wide.2 h), fun h => fun c cs _ => let ⟨v, w', r, s⟩ := h c cs; ⟨v, w', r, stepsIn_wide.2 s⟩, rfl⟩
def noDefer : List Oper → Bool
  | [] => true
  | o :: l => (match o.op with | .defer _ => false | _ => true) && noDefer l
theorem noDefer_cons {o : Oper} {l : List Oper} (h : noDefer (o :: l) = true) : (∀ c, o.op ≠ .defer c) ∧ noDefer l = true := by
  unfold noDefer at h
  rw [Bool.and_eq_true] at h
  refine ⟨fun c hc => ?_, h.2⟩
  rw [hc] at h
  exact absurd h.1 (by simp)
theorem noDefer_at : ∀ {l : List Oper}, noDefer l = true → ∀ (i : Nat) (o : Oper), l[i]? = some o → ∀ c, o.op ≠ .defer c
  | [], _, i, o, hi => by simp at hi
  | p :: l, h, i, o, hi => by
    obtain ⟨h1, h2⟩ := noDefer_cons h
    cases i with
    | zero => simp at hi; subst hi; exact h1
    | succ i => exact noDefer_at h2 i o (by simpa using hi)
section
variable {F : Fence} {m : Nat} {P : Program}
theorem opIn (hF : Wd F) {o : Oper} {a : Act} {w : World} {next next' : Act → World → Prop} {Q Q' : Exit → Act → World → Prop} (hd : ∀ c, o.op ≠ .defer c) (hQ : ∀ e a w, e ≠ .normal → ¬ Q e a w) (hn : ∀ a w, next a w → next' a w) (h : o.wp P a w next Q) : o.wpIn F m P a w next' Q' := by
  refine ⟨fun f _ => hF.fn f, ?_⟩
  rw [Oper.semAt_eq _ _ _ hd]
  unfold Oper.wp at h
  generalize (execOp a.eval o).run P w = r at h ⊢
  cases r with
  | ok x w' =>
    cases x <;> simp only [Oper.upon, Oper.uponIn] at h ⊢
    case value v => exact hn _ _ h
    case skip => exact hn _ _ h
    case defer dd => exact hn _ _ h
    case enter k args =>
      refine ⟨(fun e => by (rw [hF.depth] at e; cases e)), hF.calls (h.mono fun e w'' he => ?_)⟩
      cases e with
      | returned v => exact hn _ _ he
      | panicked c => exact absurd he (hQ _ _ _ (by simp))
      | outgrown => obtain ⟨_, _, h0⟩ := he; exact absurd h0 (hQ _ _ _ (by simp))
    case row rw args => exact ⟨(fun e => by (rw [hF.depth] at e; cases e)), hF.rows (h.mono fun v w'' he => hn _ _ he)⟩
  | halt x w' => cases x <;> simp only [Oper.upon, Oper.uponIn] at h ⊢; exact absurd h (hQ _ _ _ (by simp))
/-- Only the normal way out. -/
def onlyN (K : Act → World → Prop) : Exit → Act → World → Prop
  | .normal, a, w => K a w
  | _, _, _ => False
theorem onlyN_no {K : Act → World → Prop} : ∀ e a w, e ≠ .normal → ¬ onlyN K e a w := fun e a w he h => by cases e <;> first | exact he rfl | exact h
theorem listIn (hF : Wd F) {ops : Array Oper} {Q : Exit → Act → World → Prop} {K : Act → World → Prop} (hK : ∀ a w, K a w → Q .normal a w) : ∀ (l : List Oper) (a : Act) (w : World), noDefer l = true → wpList P ops (onlyN K) l a w → wpListIn F m P ops Q l a w
  | [], a, w, _, h => hK _ _ h
  | o :: l, a, w, hd, h => by
    obtain ⟨h1, h2⟩ := noDefer_cons hd
    unfold wpList at h
    unfold wpListIn
    split
    · rename_i hw
      rw [if_pos hw] at h
      rcases h with h | ⟨_, _, _, h0⟩
      · exact opIn hF h1 onlyN_no (fun a w ha => listIn hF hK l a w h2 ha) h
      · exact h0.elim
    · rename_i hw
      rw [if_neg hw] at h
      exact ⟨fun f _ => hF.fn f, listIn hF hK l _ _ h2 h⟩
theorem anyIn (hF : Wd F) {md : Region.Mode} {ops : Array Oper} {Q : Exit → Act → World → Prop} {K : Act → World → Prop} (hd : noDefer ops.toList = true) (hK : ∀ a w, K a w → Q .normal a w) : ∀ (fuel : Nat) (listed : Array Bool) (a : Act) (w : World),
    wpAny P md ops (onlyN K) fuel listed a w → wpAnyIn F m P md ops Q fuel listed a w
  | 0, _, _, _, h => ⟨h.1, hK _ _ h.2⟩
  | fuel + 1, listed, a, w, h => by
    refine ⟨fun hr => hK _ _ (h.1 hr), fun i hi => ?_⟩
    have h1 := h.2 i hi
    unfold wpOp at h1
    unfold wpOpIn
    cases ho : ops[i]? with
    | none => rw [ho] at h1; exact anyIn hF hd hK fuel _ _ _ h1
    | some o =>
      rw [ho] at h1
      simp only at h1 ⊢
      have hdo := noDefer_at hd i o (by simpa using ho)
      split
      · rename_i hw
        rw [if_pos hw] at h1
        rcases h1 with h1 | ⟨_, _, _, h0⟩
        · exact opIn hF hdo onlyN_no (fun a w ha => anyIn hF hd hK fuel _ a w ha) h1
        · exact h0.elim
      · rename_i hw
        rw [if_neg hw] at h1
        exact ⟨fun f _ => hF.fn f, anyIn hF hd hK fuel _ _ _ h1⟩
end
/-! ### the calculus -/
def Wpg (F : Fence) (m : Nat) (P : Program) (n : Nat) (Q : Exit → Fr → World → Prop) (c : Code) (f : Fr) (w : World) : Prop :=
  ∀ a, FEq n a f → c.wpIn F m P (fun e a' w' => ∃ f', FEq n a' f' ∧ Q e f' w') a w
def WpOG (F : Fence) (m : Nat) (P : Program) (n : Nat) (ops : Array Oper) (K : Fr → World → Prop) (l : List Oper) (f : Fr) (w : World) : Prop :=
  ∀ a, FEq n a f → ∀ Q : Exit → Act → World → Prop, (∀ a' w' f', FEq n a' f' → K f' w' → Q .normal a' w') → wpListIn F m P ops Q l a w
section
variable {F : Fence} {m : Nat} {P : Program} {n : Nat} {Q : Exit → Fr → World → Prop} {f : Fr} {w : World}
theorem Wpg.mono {Q' : Exit → Fr → World → Prop} {c : Code} (h : Wpg F m P n Q c f w) (hq : ∀ e f w, Q e f w → Q' e f w) : Wpg F m P n Q' c f w :=
  fun a ha => wpIn_mono (h a ha) fun _ _ _ ⟨f', hf, hQ⟩ => ⟨f', hf, hq _ _ _ hQ⟩
theorem wpg_skip (h : Q .normal f w) : Wpg F m P n Q .skip f w := fun _ ha => wpIn_skip ⟨f, ha, h⟩
theorem wpg_ret (h : Q .ret f w) : Wpg F m P n Q .ret f w := fun _ ha => wpIn_ret ⟨f, ha, h⟩
theorem wpg_exit {id : Nat} (h : Q (.exit id) f w) : Wpg F m P n Q (.exit id) f w := fun _ ha => wpIn_exit ⟨f, ha, h⟩
theorem wpg_seq {x y : Code} (h : Wpg F m P n (thn (Wpg F m P n Q y) Q) x f w) : Wpg F m P n Q (.seq x y) f w := fun a ha =>
  wpIn_seq (wpIn_mono (h a ha) fun e a' w' ⟨f', hf, hQ⟩ => by
    cases e with
    | normal => exact hQ a' hf
    | exit i => exact ⟨f', hf, hQ⟩
    | goto l => exact ⟨f', hf, hQ⟩
    | ret => exact ⟨f', hf, hQ⟩
    | panic c => exact ⟨f', hf, hQ⟩
    | outgrown => exact ⟨f', hf, hQ⟩)
theorem wpg_seq_mid {x y : Code} (M : Fr → World → Prop) (h : Wpg F m P n (thn M Q) x f w) (hM : ∀ f w, M f w → Wpg F m P n Q y f w) : Wpg F m P n Q (.seq x y) f w :=
  wpg_seq (h.mono fun e f w hq => by cases e <;> first | exact hM _ _ hq | exact hq)
theorem wpg_mid {c : Code} (M : Fr → World → Prop) (h : Wpg F m P n (thn M Q) c f w) (hM : ∀ f w, M f w → Q .normal f w) : Wpg F m P n Q c f w :=
  h.mono fun e f w hq => by cases e <;> first | exact hM _ _ hq | exact hq
theorem wpg_block {id : Nat} {c : Code} (h : Wpg F m P n (blk id Q) c f w) : Wpg F m P n Q (.block id c) f w := fun a ha =>
  wpIn_block (wpIn_mono (h a ha) fun e a' w' ⟨f', hf, hQ⟩ => by
    cases e with
    | exit i =>
      simp only [blk] at hQ
      simp only [Exit.inBlock]
      by_cases hi : i = id
      · rw [if_pos hi] at hQ ⊢; exact ⟨f', hf, hQ⟩
      · rw [if_neg hi] at hQ ⊢; exact ⟨f', hf, hQ⟩
    | normal => exact ⟨f', hf, hQ⟩
    | goto l => exact ⟨f', hf, hQ⟩
    | ret => exact ⟨f', hf, hQ⟩
    | panic c => exact ⟨f', hf, hQ⟩
    | outgrown => exact ⟨f', hf, hQ⟩)
theorem wpg_cond {c : Operand} {x y : Code} {b : Bool} (hc : ev f c = .bool b) (ht : b = true → Wpg F m P n Q x f w) (hf : b = false → Wpg F m P n Q y f w) : Wpg F m P n Q (.cond c x y) f w := fun a ha =>
  wpIn_cond_split (t := b) (by rw [ha.eval]; exact hc) (fun h => ht h a ha) (fun h => hf h a ha)
theorem wpg_condt {c : Operand} {x y : Code} {b : Bool} (hc : ev f c = .bool b) (hb : b = true) (h : Wpg F m P n Q x f w) : Wpg F m P n Q (.cond c x y) f w :=
  wpg_cond hc (fun _ => h) (fun e => by rw [hb] at e; cases e)
theorem wpg_condf {c : Operand} {x y : Code} {b : Bool} (hc : ev f c = .bool b) (hb : b = false) (h : Wpg F m P n Q y f w) : Wpg F m P n Q (.cond c x y) f w :=
  wpg_cond hc (fun e => by rw [hb] at e; cases e) (fun _ => h)
theorem wpg_loopN {c : Code} (I : Nat → Fr → World → Prop) (m₀ : Nat) (h₀ : I m₀ f w)
    (round : ∀ k f w, I k f w → Wpg F m P n (thn (fun f' w' => ∃ k', k' < k ∧ I k' f' w') Q) c f w) : Wpg F m P n Q (.loop c) f w := by
  intro a ha
  refine wpIn_loop_rounds (m₀ + 1) ?_
  have key : ∀ N k f a w, k ≤ N → I k f w → FEq n a f → Code.roundsIn F m P c (fun e a' w' => ∃ f', FEq n a' f' ∧ Q e f' w') (N + 1) a w := by
    intro N
    induction N with
    | zero =>
      intro k f a w hk hI ha
      refine wpIn_mono (round k f w hI a ha) fun e a' w' ⟨f', hf, hQ⟩ => ?_
      cases e with
      | normal => obtain ⟨k', hlt, _⟩ := hQ; omega
      | exit i => exact ⟨f', hf, hQ⟩
      | goto l => exact ⟨f', hf, hQ⟩
      | ret => exact ⟨f', hf, hQ⟩
      | panic c => exact ⟨f', hf, hQ⟩
      | outgrown => exact ⟨f', hf, hQ⟩
    | succ N ih =>
      intro k f a w hk hI ha
      refine wpIn_mono (round k f w hI a ha) fun e a' w' ⟨f', hf, hQ⟩ => ?_
      cases e with
      | normal => obtain ⟨k', hlt, hI'⟩ := hQ; exact ih k' f' a' w' (by omega) hI' hf
      | exit i => exact ⟨f', hf, hQ⟩
      | goto l => exact ⟨f', hf, hQ⟩
      | ret => exact ⟨f', hf, hQ⟩
      | panic c => exact ⟨f', hf, hQ⟩
      | outgrown => exact ⟨f', hf, hQ⟩
  exact key m₀ m₀ f a w (Nat.le_refl _) h₀ ha
end
section
variable {F : Fence} {m : Nat} {P : Program} {n : Nat} {ops : Array Oper} {K : Fr → World → Prop} {l : List Oper} {f : Fr} {w w' : World} {o : Oper} {v : Value} {Q : Exit → Fr → World → Prop}
theorem WpOG.mono {K' : Fr → World → Prop} (h : WpOG F m P n ops K l f w) (hk : ∀ f w, K f w → K' f w) : WpOG F m P n ops K' l f w :=
  fun a ha Q hQ => h a ha Q fun a' w' f' hf hK => hQ a' w' f' hf (hk _ _ hK)
/-- What is walked as everywhere holds in a round too. -/
theorem wpog_of (hF : Wd F) (hd : noDefer l = true) (h : WpO P n ops K l f w) : WpOG F m P n ops K l f w := fun a ha Q hQ =>
  listIn hF (K := fun a' w' => ∃ f', FEq n a' f' ∧ K f' w') (fun a' w' ⟨f', hf, hK⟩ => hQ a' w' f' hf hK) l a w hd (h a ha _ fun a' w' f' hf hK => ⟨f', hf, hK⟩)
theorem wpg_region' {id : Nat} (h : WpOG F m P n l.toArray (Q .normal) l f w) : Wpg F m P n Q (.region id l.toArray false) f w := fun a ha =>
  wpIn_region_lit (h a ha _ fun _ _ f' hf hK => ⟨f', hf, hK⟩)
theorem wpg_region {id : Nat} (hF : Wd F) (h : WpO P n l.toArray (Q .normal) l f w) (hd : noDefer l = true := by kernel_rfl) : Wpg F m P n Q (.region id l.toArray false) f w := wpg_region' (wpog_of hF hd h)
theorem wpg_seq_region {id : Nat} {y : Code} (hF : Wd F) (h : WpO P n l.toArray (Wpg F m P n Q y) l f w) (hd : noDefer l = true := by kernel_rfl) : Wpg F m P n Q (.seq (.region id l.toArray false) y) f w :=
  wpg_seq (wpg_region hF h hd)
theorem wpg_seq_region_mid {id : Nat} {y : Code} (M : Fr → World → Prop) (hF : Wd F) (h : WpO P n l.toArray M l f w) (hM : ∀ f w, M f w → Wpg F m P n Q y f w) (hd : noDefer l = true := by kernel_rfl) : Wpg F m P n Q (.seq (.region id l.toArray false) y) f w :=
  wpg_seq_region hF (h.mono hM) hd
theorem wpg_region_mid {id : Nat} (M : Fr → World → Prop) (hF : Wd F) (h : WpO P n l.toArray M l f w) (hM : ∀ f w, M f w → Q .normal f w) (hd : noDefer l = true := by kernel_rfl) : Wpg F m P n Q (.region id l.toArray false) f w :=
  wpg_region hF (h.mono hM) hd
/-- A part of a region as everywhere, then what wants the fence. -/
theorem wpog_app (hF : Wd F) {l' : List Oper} (hd : noDefer l = true) (h : WpO P n ops (WpOG F m P n ops K l') l f w) : WpOG F m P n ops K (l ++ l') f w := by
  intro a ha Q hQ
  have h1 : wpListIn F m P ops (onlyN (wpListIn F m P ops Q l')) l a w := listIn hF (K := wpListIn F m P ops Q l') (fun a' w' h => h) l a w hd (h a ha _ fun a' w' f' hf hK => hK a' hf Q hQ)
  clear h ha
  induction l generalizing a w with
  | nil => exact h1
  | cons o l ih =>
    simp only [List.cons_append, wpListIn] at h1 ⊢
    split
    · rename_i hw
      rw [if_pos hw] at h1
      refine ⟨h1.1, ?_⟩
      have h2 := h1.2
      have hl := (noDefer_cons hd).2
      generalize (o.semAt F.round a.eval).run P w = r at h2 ⊢
      cases r with
      | ok x w' =>
        cases x <;> simp only [Oper.uponIn] at h2 ⊢
        case value v => exact ih hl _ h2
        case skip => exact ih hl _ h2
        case defer dd => exact ih hl _ h2
        case enter k args =>
          refine ⟨h2.1, h2.2.mono fun e w'' he => ?_⟩
          cases e with
          | returned v => exact ih hl _ he
          | panicked c => exact he.elim
          | outgrown => obtain ⟨_, _, h0⟩ := he; exact h0.elim
        case row rw args => exact ⟨h2.1, h2.2.mono fun v w'' he => ih hl _ he⟩
        case round l f tmps assign body =>
          refine ⟨h2.1, h2.2.mono fun e w'' he => ?_⟩
          cases e with
          | returned v => exact ih hl _ he
          | panicked c => exact he.elim
          | outgrown => obtain ⟨_, _, h0⟩ := he; exact h0.elim
      | halt x w' => cases x <;> simp only [Oper.uponIn] at h2 ⊢; exact h2.elim
    · rename_i hw
      rw [if_neg hw] at h1
      exact ⟨h1.1, ih (noDefer_cons hd).2 _ h1.2⟩
/-- A call of yield. -/
theorem wpog_yield (hF : Wd F) (hro : F.round = none) {d : Nat} {x : Operand} {args : Array Operand} {ats : Array TypeId} {ty : TypeId} {pos : String} {aft : Array Edge} {lr : Nat} {vs : List Value} {R : Ending → World → Prop}
    (hx : ev f x = .func (.yield lr) #[] #[]) (ha : args.toList.map (ev f) = vs) (hd : Nat.blt d n = true) (hy : YieldAt F (m - 1) P lr vs.toArray w R)
    (h : ∀ e w', R e w' → ∃ b : Bool, e = .returned (.bool b) ∧ WpOG F m P n ops K l (up f d (.bool b)) w') :
    WpOG F m P n ops K (⟨some d, .call ⟨.value x, args, ats⟩, ty, pos, aft, none⟩ :: l) f w := fun a hfa Q hQ => by
  obtain ⟨fn, tmps, assign, body, hr, hR⟩ := hy
  unfold wpListIn
  rw [if_pos (by simp [Region.wanted])]
  refine ⟨fun k _ => hF.fn k, ?_⟩
  have he : ((⟨some d, .call ⟨.value x, args, ats⟩, ty, pos, aft, none⟩ : Oper).semAt F.round a.eval).run P w = .ok (.round lr fn tmps assign body) w := by
    rw [hro, Oper.semAt_none, hfa.eval]
    have e1 : args.map (ev f) = vs.toArray := by rw [← ha]; apply Array.ext'; simp
    simp [execOp, resolve, Deferred.ofValue, invoke, hx, e1, hr]
  rw [he]
  refine ⟨(fun e => by (rw [hF.depth] at e; cases e)), hR.mono fun e w' hw => ?_⟩
  obtain ⟨b, rfl, hk⟩ := h e w' hw
  exact hk _ (hfa.put hd _) Q hQ
theorem wpog_nil (h : K f w) : WpOG F m P n ops K [] f w := fun a ha _ hQ => hQ a w f ha h
end
/-- A function's contract at the wide fence, out of its body. -/
theorem callsIn_of_wpg {P : Program} {k : FuncId} {fn : Func} {c : Code} {args : Array Value} {w : World} {R : Value → World → Prop} {n m : Nat}
    (hf : P.funcs[k]? = some fn) (hb : fn.body = some c) (hn : fn.ntmps = n) (hs : Nat.ble args.size n = true)
    (h : Wpg Fence.wide m P n (endQ P fn R) c (f0 args) w) : CallsIn Fence.wide m P k args w fun e w' => ∃ v, e = .returned v ∧ R v w' := by
  have hs' : args.size ≤ n := by simpa [Nat.ble_eq] using hs
  refine callsIn_of_wp hf hb trivial ?_
  refine wpIn_mono (h _ ⟨rfl, by simp [hn]; omega, fun i => ?_⟩) fun e a w ⟨f', hf', hQ⟩ => ?_
  · simp only [f0, lget_eq, Array.getD_eq_getD_getElem?, Array.getElem?_toList]
    by_cases hi : i < args.size
    · rw [Array.getElem?_append_left hi]
    · rw [Array.getElem?_append_right (by omega), Array.getElem?_eq_none (by omega : args.size ≤ i)]
      by_cases h2 : i - args.size < fn.ntmps - args.size
      · simp [h2]
      · rw [Array.getElem?_eq_none (by simp; omega)]
  · cases e with
    | normal => obtain ⟨v, hv, hR⟩ := hQ; exact ⟨hf'.defers, v, hv _ hf'.at_, v, rfl, hR⟩
    | ret => obtain ⟨v, hv, hR⟩ := hQ; exact ⟨hf'.defers, v, hv _ hf'.at_, v, rfl, hR⟩
    | exit i => exact hQ.elim
    | goto l => exact hQ.elim
    | panic c => exact hQ.elim
    | outgrown => exact hQ.elim
section
variable {P : Program} {n : Nat} {ops : List Oper} {f : Fr}
/-- THE RULE. -/
theorem wpg_draw {F : Fence} {m0 : Nat} {id : Nat} {w : World} {Q : Exit → Fr → World → Prop} (hF : Wd F) (m : Nat) (vals : List (Nat × Value)) (Inv : World → Prop) (hmx : P.follows .mixedOrders = true) (hck : drawOk n m ops (befores ops) = true) (h0 : Inv w.drew)
    (hpre : YlL P n ops.toArray Inv (ups f vals) (ops.take m) vals) (htail : ∀ w', Inv w' → WpO P n ops.toArray (Q .normal) (ops.drop m) (ups f vals) w') (hdf : noDefer ops = true := by kernel_rfl) : Wpg F m0 P n Q (.region id ops.toArray true) f w := fun a ha => by
  obtain ⟨hm, _, hone⟩ := drawOk_spec hck
  obtain ⟨hlen, hget⟩ := yll_get _ _ hpre
  obtain ⟨aF, haF⟩ := ups_feq vals a f ha fun p hp => by
    obtain ⟨j, hj⟩ := List.getElem?_of_mem hp
    have hjm : j < m := by
      have := (List.getElem?_eq_some_iff.1 hj).1
      rw [← hlen] at this
      simp at this
      omega
    obtain ⟨oj, hoj⟩ : ∃ oj, ops[j]? = some oj := ⟨_, List.getElem?_eq_getElem (by omega)⟩
    obtain ⟨d, v, hv, hd, _⟩ := hget j oj (by rw [List.getElem?_take, if_pos hjm]; exact hoj)
    rw [hj] at hv
    have := Option.some.inj hv
    subst this
    have h1 := hone j oj hoj
    unfold drawOne at h1
    simp only [Bool.and_eq_true, if_pos hjm, hd] at h1
    simpa using h1.2.1.2
  refine wpIn_region_any hmx (anyIn hF (K := fun a' w' => ∃ f', FEq n a' f' ∧ Q .normal f' w') (by simpa using hdf) (fun _ _ h => h) _ _ _ _ ?_)
  have hrep : ∀ j, (Array.replicate ops.toArray.size false).getD j false = false := fun j => by
    rw [Array.getD_eq_getD_getElem?]
    cases h : (Array.replicate ops.toArray.size false)[j]? with
    | none => rfl
    | some b => rw [Array.getElem?_replicate] at h; split at h <;> simp_all
  refine wpAny_draw (K := Q .normal) hck rfl haF hpre htail (fun a' w' f' hf hK => ⟨f', hf, hK⟩) _ _ a _ ha.defers ha.size (by simp) h0 (fun j _ => hrep j) (fun j hj => by rw [hrep j] at hj; cases hj) (fun t _ => ha.at_ t) (fun j o t _ hj => by rw [hrep j] at hj; cases hj) ?_
  rw [show ops.toArray.size = ops.length by simp, cnt_init]
  exact Nat.le_refl _
end
theorem resCell_mk1 {P : Program} {f : Fr} {w : World} {t T b o : Nat} {v : Value} (ht : oneTy P T = true) (hf : f t = .pointer (some ⟨b, o, none⟩)) (hc : w.cell? ⟨b, o, none⟩ = some v) : resCell P f w t T v :=
  ⟨_, hf, by simp [loadVar, run_isAgg1 ht, hc]⟩
/-! ### a function whose last statement but some is such a loop -/
def WpA (m : Nat) (P : Program) (n : Nat) (QA : Exit → Act → World → Prop) (c : Code) (f : Fr) (w : World) : Prop := ∀ a, FEq n a f → c.wpIn Fence.wide m P QA a w
def toQ (n : Nat) (QA : Exit → Act → World → Prop) : Exit → Fr → World → Prop := fun e f w => ∀ a, FEq n a f → QA e a w
section
variable {m : Nat} {P : Program} {n : Nat} {QA : Exit → Act → World → Prop} {f : Fr} {w : World}
theorem wpa_seq {x y : Code} (h : Wpf P n (thn (WpA m P n QA y) (toQ n QA)) x f w) : WpA m P n QA (.seq x y) f w := fun a ha =>
  wpIn_seq (wpIn_wide.2 (wp_mono (h a ha) fun e a' w' ⟨f', hf, hQ⟩ => by
    cases e with
    | normal => exact hQ a' hf
    | exit i => exact hQ a' hf
    | goto l => exact hQ a' hf
    | ret => exact hQ a' hf
    | panic c => exact hQ a' hf
    | outgrown => exact hQ a' hf))
theorem wpa_seq_region {id : Nat} {l : List Oper} {y : Code} (h : WpO P n l.toArray (WpA m P n QA y) l f w) : WpA m P n QA (.seq (.region id l.toArray false) y) f w := wpa_seq (wpf_region h)
theorem wpa_seqT {x y : Code} (h : WpA m P n (Exit.then (y.wpIn Fence.wide m P QA) QA) x f w) : WpA m P n QA (.seq x y) f w := fun a ha => wpIn_seq (h a ha)
end
/-- What stood in the frame before is forgotten. -/
theorem wpa_gen {m : Nat} {P : Program} {n : Nat} {QA : Exit → Act → World → Prop} {c : Code} {f : Fr} {w : World} (M : Fr → Prop) (h : M f) (hM : ∀ f, M f → WpA m P n QA c f w) : WpA m P n QA c f w := hM f h
section
end
theorem callsA {P : Program} {k : FuncId} {fn : Func} {c : Code} {args : Array Value} {w : World} {R : Value → World → Prop} {n m : Nat}
    (hf : P.funcs[k]? = some fn) (hb : fn.body = some c) (hn : fn.ntmps = n) (hs : Nat.ble args.size n = true)
    (h : WpA m P n (bodyPostM Fence.wide m P fn (fun e w' => ∃ v, e = .returned v ∧ R v w')) c (f0 args) w) : Calls P k args w fun e w' => ∃ v, e = .returned v ∧ R v w' := by
  have hs' : args.size ≤ n := by simpa [Nat.ble_eq] using hs
  refine callsIn_wide.1 (callsIn_of_wp_marks hf hb trivial (h _ ⟨rfl, by simp [hn]; omega, fun i => ?_⟩))
  simp only [f0, lget_eq, Array.getD_eq_getD_getElem?, Array.getElem?_toList]
  by_cases hi : i < args.size
  · rw [Array.getElem?_append_left hi]
  · rw [Array.getElem?_append_right (by omega), Array.getElem?_eq_none (by omega : args.size ≤ i)]
    by_cases h2 : i - args.size < fn.ntmps - args.size
    · simp [h2]
    · rw [Array.getElem?_eq_none (by simp; omega)]
theorem endA {m n : Nat} {P : Program} {fn : Func} {R : Value → World → Prop} {f : Fr} {w : World} {v : Value} (hv : resV P fn f w v) (hR : R v w) : toQ n (bodyPostM Fence.wide m P fn (fun e w' => ∃ v, e = .returned v ∧ R v w')) .ret f w := fun a ha => by
  show LeavesInM Fence.wide m P fn a.tmps _ a.defers .returning w
  rw [ha.defers]
  exact ⟨v, hv _ ha.at_, v, rfl, hR⟩
/-- The same behind such a loop: its mark is taken up. -/
theorem endD {m n D : Nat} {P : Program} {fn : Func} {R : Value → World → Prop} {a : Act} {f : Fr} {w : World} {v : Value} (ha : FEq n a f) (hK : w.heap[D]? = some (.deferred (some []))) (hv : resV P fn f (w.putObj D (.deferred none)) v) (hR : R v (w.putObj D (.deferred none))) :
    bodyPostM Fence.wide m P fn (fun e w' => ∃ v, e = .returned v ∧ R v w') .ret { a with defers := { target := .collected D, args := #[] } :: a.defers } w := by
  show LeavesInM Fence.wide m P fn a.tmps _ ({ target := .collected D, args := #[] } :: a.defers) .returning w
  rw [ha.defers]
  exact ⟨by simp, .inl ⟨D, _, rfl, run_takeDeferred hK, v, hv _ ha.at_, v, rfl, hR⟩⟩
theorem region1_unit {F : Fence} {m : Nat} {P : Program} {id : Nat} {o : Oper} {Q : Exit → Act → World → Prop} {a : Act} {w w' : World} (hF : Wd F) (hd : ∀ c, o.op ≠ .defer c) (hg : o.guard = none) (hr : (execOp a.eval o).run P w = .ok .skip w') (hdst : o.dst = none) (hQ : Q .normal a w') : (Code.region id #[o] false).wpIn F m P Q a w := by
  refine wpIn_region_lit (l := [o]) ?_
  unfold wpListIn
  rw [if_pos (by simp [Region.wanted, hg])]
  refine ⟨fun k _ => hF.fn k, ?_⟩
  rw [Oper.semAt_eq _ _ _ hd, hr]
  show wpListIn F m P #[o] Q [] (a.put o.dst undef) w'
  rw [hdst]
  exact hQ
theorem own_grown {w A B : World} {row : Option Nat} {n0 : Nat} (h : w.grownBy A none) (hg : A.grownBy B row) (hn : w.heap.size ≤ n0) (hr : ∀ r, row = some r → n0 ≤ r ∧ ∃ o : Obj, A.heap[r]? = some o ∧ o.isCells = false) : w.grownBy B none :=
  ⟨hg.os.trans h.os, hg.tape.trans h.tape, hg.output.trans h.output, Nat.le_trans h.size hg.size, fun i hi _ => (hg.block i (Nat.lt_of_lt_of_le hi h.size) (fun e => by have := (hr i e.symm).1; omega)).trans (h.block i hi (by simp))⟩
theorem own_blk {A B : World} {row : Option Nat} {b n0 : Nat} {T : TypeId} {cs : Array Value} (h : Blk A b T cs) (hg : A.grownBy B row) (hr : ∀ r, row = some r → n0 ≤ r ∧ ∃ o : Obj, A.heap[r]? = some o ∧ o.isCells = false) : Blk B b T cs :=
  h.grown hg (fun e => by
    obtain ⟨o, ho, hc⟩ := (hr b e.symm).2
    rw [show A.heap[b]? = _ from h] at ho
    cases ho
    cases hc)
theorem gob {w w' : World} (h : Below w.heap.size w w') : w.grownBy w' none := ⟨h.os, h.tape, h.output, h.size, fun k hk _ => h.block k hk⟩
theorem bog {w A B : World} (hw : w.grownBy A none) (h : A.grownBy B none) : Below w.heap.size A B := ⟨h.os, h.tape, h.output, h.size, fun k hk => h.block k (Nat.lt_of_lt_of_le hk hw.size) (by simp)⟩
theorem grown_below {w A B : World} (h : w.grownBy A none) (k : Below w.heap.size A B) : w.grownBy B none :=
  ⟨k.os.trans h.os, k.tape.trans h.tape, k.output.trans h.output, Nat.le_trans h.size k.size, fun i hi _ => (k.block i hi).trans (h.block i hi (by simp))⟩
theorem grown_weak {w w' : World} {r : Option Nat} (h : w.grownBy w' none) : w.grownBy w' r := ⟨h.os, h.tape, h.output, h.size, fun i hi _ => h.block i hi (by simp)⟩
theorem wpog_at {F : Fence} {m : Nat} {P : Program} {n : Nat} {ops : Array Oper} {K : Fr → World → Prop} {l : List Oper} {f : Fr} {w : World} (k : Nat) (hF : Wd F) (hd : noDefer (l.take k) = true) (h : WpO P n ops (WpOG F m P n ops K (l.drop k)) (l.take k) f w) : WpOG F m P n ops K l f w := by
  have := wpog_app (K := K) hF hd h
  rwa [List.take_append_drop] at this
/-! ### all rights of a table -/
def allR (ms : List MTh) : List Rt := ms.flatMap (fun m => m.t.slots)
def preR (ms : List MTh) (k j : Nat) : List Rt := allR (ms.take k) ++ (mAt ms k).t.slots.take j
theorem preR_zero (ms : List MTh) (k : Nat) : preR ms k 0 = allR (ms.take k) := by simp [preR]
theorem preR_snoc {ms : List MTh} {k j : Nat} (hj : j < (mAt ms k).t.slots.length) : preR ms k j ++ [rAt (mAt ms k).t.slots j] = preR ms k (j + 1) := by
  unfold preR
  rw [List.take_add_one, rAt_get hj, List.append_assoc]
  rfl
theorem preR_next {ms : List MTh} {k j : Nat} (hk : k < ms.length) (hj : (mAt ms k).t.slots.length ≤ j) : preR ms k j = allR (ms.take (k + 1)) := by
  unfold preR allR
  rw [List.take_add_one, mAt_get hk, List.take_of_length_le hj, List.flatMap_append]
  simp
theorem allR_split {ms : List MTh} {k : Nat} (hk : k < ms.length) : allR ms = allR (ms.take k) ++ ((mAt ms k).t.slots ++ allR (ms.drop (k + 1))) := by
  unfold allR
  conv => lhs; rw [← List.take_append_drop k ms, List.flatMap_append, drop_split (mAt_get hk), List.flatMap_cons]
theorem preR_prefix {ms : List MTh} {k j : Nat} (hk : k < ms.length) : preR ms k j <+: allR ms := by
  rw [allR_split hk]
  unfold preR
  refine List.prefix_append_right_inj _ |>.2 ?_
  exact (List.take_prefix _ _).trans (List.prefix_append _ _)
theorem preR_lt {ms : List MTh} {k j : Nat} (hk : k < ms.length) (hj : j < (mAt ms k).t.slots.length) : (preR ms k j).length < (allR ms).length := by
  rw [allR_split hk]
  unfold preR
  simp only [List.length_append, List.length_take]
  omega
theorem allR_take {ms : List MTh} {k : Nat} (hk : ms.length ≤ k) : allR (ms.take k) = allR ms := by rw [List.take_of_length_le hk]
theorem gate_i {ms : List MTh} {t : Th} : (decide (t.kind = 5) && !kindAt (tabT ms) t.to 1) = !gateOk (tabT ms) t := by
  unfold gateOk
  cases decide (t.kind = 5) <;> simp
def headOk (ts : List Th) (t : Th) : Bool := thingOk t && gateOk ts t
theorem tabi_len {ms : List MTh} (h : inR (ms.length : Int) 1 8 = false) : tableOk (tabT ms) = false := by
  unfold tableOk
  rw [tabT_len, h]
  rfl
theorem tabi_no {ms : List MTh} {k : Nat} (hk : k < ms.length) (h : headOk (tabT ms) (mAt ms k).t = false) : tableOk (tabT ms) = false := by
  have h1 : (tabT ms).all (fun t => thingOk t && gateOk (tabT ms) t) = false := all_false_of (p := headOk (tabT ms)) (tab_at hk) h
  unfold tableOk
  rw [h1, Bool.false_and, Bool.and_false]
theorem tabi_yes {ms : List MTh} {k : Nat} (hl : inR (ms.length : Int) 1 8 = true) (h : ((tabT ms).take k).all (headOk (tabT ms)) = true) (hk : ms.length ≤ k) : tableOk (tabT ms) = (allR ms).all (rightTo (tabT ms)) := by
  have h1 : (tabT ms).all (fun t => thingOk t && gateOk (tabT ms) t) = true := all_of_take (p := headOk (tabT ms)) h (by rw [tabT_len]; exact hk)
  unfold tableOk
  rw [h1, tabT_len, hl, Bool.true_and, Bool.true_and]
  generalize rightTo (tabT ms) = p
  unfold tabT allR
  rw [List.all_map, List.all_flatMap]
  rfl
theorem rightTo_z {ts : List Th} {r : Rt} (h : decide (r.th = 0) = true) : rightTo ts r = true := by unfold rightTo; rw [h]; rfl
theorem rightTo_i {ms : List MTh} {r : Rt} (h : decide (r.th = 0) = false) : ((!inR r.th 1 (ms.length : Int)) || (decide ((mAt ms (r.th - 1).toNat).t.ve < r.ve))) = !rightTo (tabT ms) r := by
  unfold rightTo
  rw [h, Bool.false_or, mAt_th, tabT_len]
  cases inR r.th 1 (ms.length : Int)
  · rfl
  · have e : decide ((thAt (tabT ms) r.th).ve < r.ve) = !decide (r.ve ≤ (thAt (tabT ms) r.th).ve) := by
      rw [Bool.eq_iff_iff]; simp
    simp only [e, Bool.not_true, Bool.false_or, Bool.true_and]
theorem all_prefix {p : Rt → Bool} {a b : List Rt} (h : a <+: b) (ha : a.all p = false) : b.all p = false := by
  obtain ⟨c, rfl⟩ := h
  rw [List.all_append, ha, Bool.false_and]
end Go.Dw
