/- Laws and walks: my templates, and what a program of mine (gen.py) printed out of the functions; only what the row reaches. -/
import Derived.Test.YtldnkinaedgnpaaVA1
section
namespace Go.Dw.J
open Go.Dw Go.Conc Go.RowKit
set_option linter.unusedVariables false
set_option linter.unusedSimpArgs false
section
variable {P : Program}
theorem W9 {t : TypeId} {xs : Array Value} {o : Nat} (h : xs.toList.all atom = true) : Yields P (fun v => flat1 v = true) (part t xs o) := by
  have h' : ∀ v ∈ xs.toList, atom v = true := List.all_eq_true.1 h
  unfold part
  have hc : ∀ b, Yields P (fun v => flat1 v = true) (if b = true then (do pure (Value.agg (xs.extract o (o + (← sizeOf t)))) : Sem Value) else match xs[o]? with | some v => pure v | none => stuck "part: no such cell") := fun b => by
    split
    · show Yields P _ (Sem.bind (Sem.bind (Sem.program fun p => _) _) _)
      simp only [Sem.bind, Yields]
      cases hi : P.info? t with
      | none => trivial
      | some i =>
        show flat1 (.agg _) = true
        simp only [flat1, List.all_eq_true]
        intro v hv
        refine h' v ?_
        simp only [Array.toList_extract, List.extract_eq_take_drop] at hv
        exact List.mem_of_mem_drop (List.mem_of_mem_take hv)
    · split
      · rename_i v hv
        have : atom v = true := h' v (Array.mem_toList_iff.2 (Array.mem_of_getElem? hv))
        show flat1 v = true
        unfold flat1
        cases v <;> first | exact this | (simp [atom] at this)
      · trivial
  have h1 : ∀ b, Yields P (fun v => flat1 v = true) ((pure b : Sem Bool) >>= fun b => if b = true then (do pure (Value.agg (xs.extract o (o + (← sizeOf t)))) : Sem Value) else match xs[o]? with | some v => pure v | none => stuck "part: no such cell") := hc
  unfold isAgg
  show Yields P _ (Sem.bind (Sem.bind (Sem.program fun p => _) _) _)
  simp only [Sem.bind, Yields]
  cases hu : P.underlying t with
  | none => trivial
  | some d =>
    show Yields P _ (Sem.bind (match d with | .struct _ | .array _ _ => pure true | _ => pure false) _)
    split <;> first | exact hc true | exact hc false
theorem Hh {α β : Type} {g : α → β → Sem (ForInStep β)} (hg : ∀ a b, Quiet P (g a b)) : ∀ (l : List α) (b : β), Quiet P (forIn l b g)
  | [], b => by rw [List.forIn_nil]; trivial
  | a :: l, b => by
    rw [List.forIn_cons]
    refine qb (hg a b) fun r => ?_
    cases r with
    | done b => trivial
    | yield b => exact Hh hg l b
theorem Hg {α β : Type} {g : α → β → Sem (ForInStep β)} (hg : ∀ a b, Quiet P (g a b)) (l : Array α) (b : β) : Quiet P (forIn l b g) := by
  rw [← Array.forIn_toList]
  exact Hh hg _ _
theorem Pe {β : Type} {g : Nat → β → Sem (ForInStep β)} (hg : ∀ a b, Quiet P (g a b)) (r : Std.Legacy.Range) (b : β) : Quiet P (forIn r b g) := by
  rw [Std.Legacy.Range.forIn_eq_forIn_range']
  exact Hh hg _ _
theorem Uh : ∀ (d : Nat) (t : TypeId) (x y : Value), flat1 x = true → flat1 y = true → Quiet P (Op.equalIn d t x y)
  | 0, _, _, _, _, _ => trivial
  | d + 1, t, x, y, hx, hy => by
    unfold Op.equalIn
    refine qb (X2 t) fun u => ?_
    split <;> first
      | exact qp _
      | exact Y5 _
      | (simp [flat1, atom] at hx; done)
      | (simp [flat1, atom] at hy; done)
      | (split <;> first | exact qp _ | exact Y5 _)
      | skip
    · rename_i fields xs ys
      refine qb Yp fun p => ?_
      dsimp only
      split
      · refine qb (Ya _) fun _ => ?_
        refine qb (Hg (fun f r => ?_) _ _) fun r => ?_
        · split
          · refine qby (Qr _ _ _) (W9 hx) fun a ha => qby (Qr _ _ _) (W9 hy) fun b hb => qb (Uh d _ a b ha hb) fun e => ?_
            split <;> exact qp _
          · exact qp _
        · split <;> exact qp _
      · refine qb (Hg (fun f r => ?_) _ _) fun r => ?_
        · split
          · refine qby (Qr _ _ _) (W9 hx) fun a ha => qby (Qr _ _ _) (W9 hy) fun b hb => qb (Uh d _ a b ha hb) fun e => ?_
            split <;> exact qp _
          · exact qp _
        · split <;> exact qp _
    · rename_i len elem xs ys
      refine qb (Yt _) fun m => ?_
      refine qb (Pe (fun f r => ?_) _ _) fun r => ?_
      · refine qby (Qr _ _ _) (W9 hx) fun a ha => qby (Qr _ _ _) (W9 hy) fun b hb => qb (Uh d _ a b ha hb) fun e => ?_
        split <;> exact qp _
      · dsimp only
        split <;> exact qp _
theorem Vz : ∀ (d : Nat) (t : TypeId) (x y : Value), Quiet P (Op.eqGuardIn d t x y)
  | 0, _, _, _ => trivial
  | d + 1, t, x, y => by
    unfold Op.eqGuardIn
    refine qb (X2 t) fun u => ?_
    split
    · exact qp _
    · refine qb (Hg (fun f r => ?_) _ _) fun r => ?_
      · split
        · refine qb (Qr _ _ _) fun a => qb (Qr _ _ _) fun b => qb (Vz d _ a b) fun e => ?_
          split <;> exact qp _
        · exact qp _
      · dsimp only
        split <;> exact qp _
    · refine qb (Yt _) fun m => ?_
      refine qb (Pe (fun f r => ?_) _ _) fun r => ?_
      · refine qb (Qr _ _ _) fun a => qb (Qr _ _ _) fun b => qb (Vz d _ a b) fun e => ?_
        split <;> exact qp _
      · dsimp only
        split <;> exact qp _
    · exact qp _
theorem Tj (op : BinOp) (t : TypeId) (x y : Operand) (a b : Value) : Quiet P (eqGuard op t x y a b) := by
  unfold eqGuard
  repeat' (first | with_reducible exact qp _ | with_reducible exact Y5 _ | with_reducible exact Ya _ | with_reducible exact Yz _ | with_reducible exact qh _ | with_reducible exact Yp | with_reducible exact Qq _ | with_reducible exact Jh _ | with_reducible exact Q3 _ _ | with_reducible exact Yr _ | with_reducible exact X2 _ | with_reducible exact Ym _ | with_reducible exact Yt _ | with_reducible exact Qy _ | with_reducible exact Yh _ _ | with_reducible exact Yd _ _ _ | with_reducible exact Y0 _ _ | with_reducible exact Yv _ _ _ | with_reducible exact Ql _ _ | with_reducible exact Qa _ _ | with_reducible exact Qk _ | with_reducible exact X3 _ | with_reducible exact Y9 _ | with_reducible exact Q8 _ | with_reducible exact Qj _ | with_reducible exact Qp _ | with_reducible exact Yq _ | with_reducible exact Qr _ _ _ | with_reducible exact Ye _ _ _ _ | with_reducible exact Qv _ | with_reducible exact Vz _ _ _ _ | with_reducible refine qb ?_ (fun _ => ?_) | with_reducible refine qm _ ?_ | split | dsimp only)
theorem Rr (op : BinOp) (k : IntKind) (x y : Int) : Quiet P (Op.intArith op k x y) := by
  unfold Op.intArith
  split <;> trivial
theorem Bf (op : BinOp) (k : IntKind) (x y : Int) : Quiet P (Op.intDiv op k x y) := by
  unfold Op.intDiv
  repeat' (first | with_reducible exact qp _ | with_reducible exact Y5 _ | with_reducible exact Ya _ | with_reducible exact Yz _ | with_reducible exact qh _ | with_reducible exact Yp | with_reducible exact Qq _ | with_reducible exact Jh _ | with_reducible exact Q3 _ _ | with_reducible exact Yr _ | with_reducible exact X2 _ | with_reducible exact Ym _ | with_reducible exact Yt _ | with_reducible exact Qy _ | with_reducible exact Yh _ _ | with_reducible exact Yd _ _ _ | with_reducible exact Y0 _ _ | with_reducible exact Yv _ _ _ | with_reducible exact Ql _ _ | with_reducible exact Qa _ _ | with_reducible exact Qk _ | with_reducible exact X3 _ | with_reducible exact Y9 _ | with_reducible exact Q8 _ | with_reducible exact Qj _ | with_reducible exact Qp _ | with_reducible exact Yq _ | with_reducible exact Qr _ _ _ | with_reducible exact Ye _ _ _ _ | with_reducible exact Qv _ | with_reducible refine qb ?_ (fun _ => ?_) | with_reducible refine qm _ ?_ | split | dsimp only)
theorem Tn (op : BinOp) (k : IntKind) (x y : Int) : Quiet P (Op.intBits op k x y) := by
  unfold Op.intBits
  dsimp only
  split <;> trivial
theorem Be (op : BinOp) (x y : Int) : Quiet P (Op.intCmp op x y) := by
  unfold Op.intCmp
  split <;> trivial
theorem C9 (op : BinOp) (k yk : IntKind) (x y : Int) : Quiet P (Op.shift op k x yk y) := by
  unfold Op.shift
  repeat' (first | with_reducible exact qp _ | with_reducible exact Y5 _ | with_reducible exact Ya _ | with_reducible exact Yz _ | with_reducible exact qh _ | with_reducible exact Yp | with_reducible exact Qq _ | with_reducible exact Jh _ | with_reducible exact Q3 _ _ | with_reducible exact Yr _ | with_reducible exact X2 _ | with_reducible exact Ym _ | with_reducible exact Yt _ | with_reducible exact Qy _ | with_reducible exact Yh _ _ | with_reducible exact Yd _ _ _ | with_reducible exact Y0 _ _ | with_reducible exact Yv _ _ _ | with_reducible exact Ql _ _ | with_reducible exact Qa _ _ | with_reducible exact Qk _ | with_reducible exact X3 _ | with_reducible exact Y9 _ | with_reducible exact Q8 _ | with_reducible exact Qj _ | with_reducible exact Qp _ | with_reducible exact Yq _ | with_reducible exact Qr _ _ _ | with_reducible exact Ye _ _ _ _ | with_reducible exact Qv _ | with_reducible refine qb ?_ (fun _ => ?_) | with_reducible refine qm _ ?_ | split | dsimp only)
theorem Ru (op : BinOp) (x y : ByteArray) : Quiet P (Op.stringOp op x y) := by
  unfold Op.stringOp
  repeat' (first | with_reducible exact qp _ | with_reducible exact Y5 _ | with_reducible exact Ya _ | with_reducible exact Yz _ | with_reducible exact qh _ | with_reducible exact Yp | with_reducible exact Qq _ | with_reducible exact Jh _ | with_reducible exact Q3 _ _ | with_reducible exact Yr _ | with_reducible exact X2 _ | with_reducible exact Ym _ | with_reducible exact Yt _ | with_reducible exact Qy _ | with_reducible exact Yh _ _ | with_reducible exact Yd _ _ _ | with_reducible exact Y0 _ _ | with_reducible exact Yv _ _ _ | with_reducible exact Ql _ _ | with_reducible exact Qa _ _ | with_reducible exact Qk _ | with_reducible exact X3 _ | with_reducible exact Y9 _ | with_reducible exact Q8 _ | with_reducible exact Qj _ | with_reducible exact Qp _ | with_reducible exact Yq _ | with_reducible exact Qr _ _ _ | with_reducible exact Ye _ _ _ _ | with_reducible exact Qv _ | with_reducible refine qb ?_ (fun _ => ?_) | with_reducible refine qm _ ?_ | split | dsimp only)
theorem C5 (op : BinOp) (t : TypeId) (x y : Value) (hx : flat1 x = true) (hy : flat1 y = true) : Quiet P (binOp op t x y) := by
  have he : Quiet P (Op.equal t x y) := Uh _ t x y hx hy
  unfold binOp
  split <;> first
    | exact C9 _ _ _ _ _
    | (split
       · exact Y5 _
       · split <;> first | exact Rr _ _ _ _ | exact Bf _ _ _ _ | exact Tn _ _ _ _ | exact Be _ _ _)
    | exact Ru _ _ _
    | exact qb he fun _ => qp _
    | exact Ya _
    | exact Y5 _
    | (simp [flat1, atom] at hx; done)
    | (simp [flat1, atom] at hy; done)
variable {f : Fr} {d : Option Nat} {ty : TypeId} {pos : String} {aft : Array Edge} {g : Option (Nat × Bool)}
theorem qv {s : Sem Value} (h : Quiet P s) : Quiet P (do pure (Next.value (← s)) : Sem Next) := qb h fun _ => trivial
theorem J8 {bo : BinOp} {xt yt : TypeId} {x y : Operand} (hx : flat1 (ev f x) = true) (hy : flat1 (ev f y) = true) : Quiet P (execOp (ev f) ⟨d, .binOp bo xt x y yt, ty, pos, aft, g⟩) :=
  qv (qb (Tj ..) fun _ => C5 _ _ _ _ hx hy)
theorem L7 (a : Addr) (fl : Field) (i : TypeInfo) (hi : P.info? fl.type = some i) (h0 : ¬ i.size = 0) : Quiet P (fieldPlace a fl) := by
  unfold fieldPlace
  refine qby (Yt _) (Ch hi) fun m hm => ?_
  subst hm
  rw [if_neg h0]
  exact qp _
theorem Tl {s k j : Nat} (h : fieldOff P s k = some j) (v : Value) : Quiet P (Instr.fieldAt s v k) := by
  unfold fieldOff at h
  split at h
  · rename_i fs hu
    split at h
    · rename_i fl hfl
      split at h
      · rename_i i hi
        split at h
        · cases h
        · rename_i hz
          unfold Instr.fieldAt
          refine qby (X2 _) (J3 hu) fun u hu => ?_
          subst hu
          simp only [hfl]
          exact qb (Yq _) fun a => qb (L7 a fl i hi hz) fun _ => qp _
      · cases h
    · cases h
  · cases h
theorem Ii {t et : TypeId} {x : Value} (h : ∀ r, x ≠ .map (some r) ∧ x ≠ .chan (some r)) : Quiet P (Builtin.len_ #[t] et #[x]) := by
  unfold Builtin.len_
  simp only [List.getElem?_toArray, List.getElem?_cons_zero]
  refine qb (X2 _) fun u => ?_
  split <;> first
    | exact qp _
    | exact Y5 _
    | exact absurd rfl (h _).1
    | exact absurd rfl (h _).2
    | repeat' (first | with_reducible exact qp _ | with_reducible exact Y5 _ | with_reducible exact Ya _ | with_reducible exact Yz _ | with_reducible exact qh _ | with_reducible exact Yp | with_reducible exact Qq _ | with_reducible exact Jh _ | with_reducible exact Q3 _ _ | with_reducible exact Yr _ | with_reducible exact X2 _ | with_reducible exact Ym _ | with_reducible exact Yt _ | with_reducible exact Qy _ | with_reducible exact Yh _ _ | with_reducible exact Yd _ _ _ | with_reducible exact Y0 _ _ | with_reducible exact Yv _ _ _ | with_reducible exact Ql _ _ | with_reducible exact Qa _ _ | with_reducible exact Qk _ | with_reducible exact X3 _ | with_reducible exact Y9 _ | with_reducible exact Q8 _ | with_reducible exact Qj _ | with_reducible exact Qp _ | with_reducible exact Yq _ | with_reducible exact Qr _ _ _ | with_reducible exact Ye _ _ _ _ | with_reducible exact Qv _ | with_reducible refine qb ?_ (fun _ => ?_) | with_reducible refine qm _ ?_ | split | dsimp only)
theorem Rs (k : IntKind) (n : Int) : Quiet P (Conv.intToInt k n) := trivial
theorem Ti {s t : TypeId} {k k' : IntKind} {a : Int} (hs : (P.underlying s).isSome = true) (ht : P.underlying t = some (.int k')) : Quiet P (convert s t (.int k a)) := by
  obtain ⟨ds, hs'⟩ := Option.isSome_iff_exists.1 hs
  unfold convert
  refine qby (X2 _) (J3 hs') fun u hu => qby (X2 _) (J3 ht) fun u2 hu2 => ?_
  subst hu
  subst hu2
  cases u <;> exact Rs _ _
theorem L8 (size n : Nat) (v : Value) : Quiet P (Builtin.firstCells size n v) := by
  unfold Builtin.firstCells
  split
  · exact Yh _ _
  · exact qp _
  · exact qp _
  · exact Y5 _
theorem C8 (v : Value) : Quiet P (Builtin.lenOf v) := by
  unfold Builtin.lenOf
  split <;> first | exact qp _ | exact Y5 _
theorem Hy (size sLen n : Nat) (base : Option Addr) (x : Value) : Look (Builtin.mayShare size sLen n base x) := by
  unfold Builtin.mayShare
  cases base with
  | some a => trivial
  | none =>
    show Look (match x with | .slice (some b) _ _ => _ | _ => _)
    split <;> trivial
theorem Nt {α : Type} (r : Bool) (u : Unsupported) : Dead P (if (!r) = true then mark .noRoom >>= fun _ => unsupported u else unsupported u : Sem α) := by
  cases r <;> trivial
theorem L9 {α : Type} (r : Bool) (u : Unsupported) : Quiet P (if (!r) = true then mark .noRoom >>= fun _ => unsupported u else unsupported u : Sem α) := by
  cases r
  · exact Or.inl ⟨rfl, trivial⟩
  · trivial
theorem Pc {t e et : TypeId} (hu : P.underlying t = some (.slice e)) (x y : Value) : Quiet P (Builtin.append_ #[t, t] et #[x, y]) := by
  unfold Builtin.append_
  simp only [List.getElem?_toArray, List.getElem?_cons_zero, List.getElem?_cons_succ]
  refine qby (X2 _) (J3 hu) fun u hu' => ?_
  subst hu'
  dsimp only
  split
  · rename_i base sLen sCap
    refine qb (Yt _) fun size => ?_
    refine qby (X2 _) (J3 hu) fun u hu' => ?_
    subst hu'
    refine qby (R := (· = false)) (qp _) rfl fun z hz => ?_
    subst hz
    simp only [Bool.false_eq_true, if_false, Bool.not_false, if_true, false_or]
    repeat' (first | with_reducible exact qp _ | with_reducible exact Y5 _ | with_reducible exact Ya _ | with_reducible exact Yz _ | with_reducible exact qh _ | with_reducible exact Yp | with_reducible exact Qq _ | with_reducible exact Jh _ | with_reducible exact Q3 _ _ | with_reducible exact Yr _ | with_reducible exact X2 _ | with_reducible exact Ym _ | with_reducible exact Yt _ | with_reducible exact Qy _ | with_reducible exact Yh _ _ | with_reducible exact Yd _ _ _ | with_reducible exact Y0 _ _ | with_reducible exact Yv _ _ _ | with_reducible exact Ql _ _ | with_reducible exact Qa _ _ | with_reducible exact Qk _ | with_reducible exact X3 _ | with_reducible exact Y9 _ | with_reducible exact Q8 _ | with_reducible exact Qj _ | with_reducible exact Qp _ | with_reducible exact Yq _ | with_reducible exact Qr _ _ _ | with_reducible exact Ye _ _ _ _ | with_reducible exact Qv _ | with_reducible exact L8 _ _ _ | with_reducible exact C8 _ | with_reducible exact Rv (fun r => L9 r _) (fun r => Nt r _) (Hy _ _ _ _ _) | with_reducible refine qb ?_ (fun _ => ?_) | with_reducible refine qm _ ?_ | split | dsimp only)
  · exact Y5 _
end
end Go.Dw.J
end
section
namespace Go.Dw
section
variable {ts : List Th} {q : Cl}
def Like (a b : Th) : Prop := b.kind = a.kind ∧ b.lab = a.lab ∧ b.to = a.to ∧ a.ve ≤ b.ve
theorem Like.refl (a : Th) : Like a a := ⟨rfl, rfl, rfl, Int.le_refl _⟩
theorem Like.trans {a b c : Th} (h : Like a b) (k : Like b c) : Like a c := ⟨k.1.trans h.1, k.2.1.trans h.2.1, k.2.2.1.trans h.2.2.1, Int.le_trans h.2.2.2 k.2.2.2⟩
theorem TabG.nil {lo : Nat} {w : World} {a : Option Addr} : TabG lo w a [] := ⟨fun k x h => by simp at h, fun m hm => by cases hm⟩
end
end Go.Dw
end
section
namespace Go.Dw
set_option linter.unusedVariables false
set_option linter.unusedSimpArgs false
section
variable {ts : List Th} {q : Cl}
def Kept (n : Int) (a b : Th) : Prop := (a.kind = 1 → b.num = a.num ∨ b.num = 0 ∨ b.num = n ∨ b.num = n % 2) ∧ ∀ v ∈ b.queue, v = n ∨ v ∈ a.queue
theorem Kept.refl (n : Int) (a : Th) : Kept n a a := ⟨fun _ => Or.inl rfl, fun _ h => Or.inr h⟩
section
variable {ms xs : List MTh}
end
end
end Go.Dw
end
section
namespace Go.Dw
set_option linter.unusedVariables false
set_option linter.unusedSimpArgs false
def RowsA (w : World) (l : List MTh) : Prop := ∀ m ∈ l, ThAt w m
theorem RowsA.of {w : World} {a : Option Addr} {l : List MTh} (h : TabAt w a l) : RowsA w l := h.2
theorem RowsA.set {w : World} {l : List MTh} {i : Nat} {m : MTh} (h : RowsA w l) (hi : i < l.length) (e : m.sa = (mAt l i).sa ∧ m.sc = (mAt l i).sc ∧ m.qa = (mAt l i).qa ∧ m.qc = (mAt l i).qc ∧ m.t.slots = (mAt l i).t.slots ∧ m.t.queue = (mAt l i).t.queue) : RowsA w (l.set i m) := fun x hx => by
  rcases List.mem_or_eq_of_mem_set hx with h1 | rfl
  · exact h x h1
  · have := h _ (List.mem_of_getElem? (Jo hi))
    unfold ThAt at this ⊢
    rw [e.1, e.2.1, e.2.2.1, e.2.2.2.1, e.2.2.2.2.1, e.2.2.2.2.2]
    exact this
theorem TabLen.put {l : List MTh} {i : Nat} {m : MTh} (h : TabLen l) (hm : m.t.slots.length ≤ 1048576 ∧ m.t.queue.length ≤ 1048576) : TabLen (l.set i m) := fun x hx => by
  rcases List.mem_or_eq_of_mem_set hx with h1 | rfl
  · exact h x h1
  · exact hm
section
variable {ms xs : List MTh} {q : Cl}
end
end Go.Dw
end
section
namespace Go.Dw
open Go.RowKit
set_option linter.unusedVariables false
structure NewO (w w' : World) (B : Nat) (T : TypeId) (sz cap n : Nat) (vs : List Value) : Prop where
  eq : B = w.heap.size
  own : Own w' B T sz cap n vs
  grw : w.grownBy w' none
section
variable {P : Program} {n : Nat} {ops : Array Oper} {K : Fr → World → Prop} {l : List Oper} {f : Fr} {w w' : World} {d : Nat} {ty : TypeId} {pos : String} {aft : Array Edge}
end
section
variable {ms : List MTh} {X : MTh} {k : Int} {l : Lab}
end
end Go.Dw
end
section
namespace Go.Dw.J
open Go.Dw Go.RowKit
set_option linter.unusedVariables false
set_option linter.unusedSimpArgs false
set_option linter.unusedSectionVars false
section
variable {A A1 : World}
theorem Ext.cell (h : Ext A A1) {a : Addr} {v : Value} (hc : A.cell? a = some v) : A1.cell? a = some v := by
  obtain ⟨c, T, fr, h1, h2, h3⟩ := Kk hc
  exact V9 (by rw [h.get (Array.getElem?_eq_some_iff.1 h1).1]; exact h1) h2 h3
theorem Ext.range (h : Ext A A1) {b o : Nat} {vs : List Value} (hr : A.rangeAt b o vs) : A1.rangeAt b o vs := fun j v hj => h.cell (hr j v hj)
theorem Ext.blk (h : Ext A A1) {b : Nat} {T : TypeId} {cs : Array Value} (hb : Blk A b T cs) : Blk A1 b T cs := (h.get hb.lt).trans hb
theorem Ext.sl (h : Ext A A1) {a : Option Addr} {sz : Nat} {xs : List (List Value)} (hs : SlAt A a sz xs) : SlAt A1 a sz xs := fun k x hk => by
  obtain ⟨b, o, e, hr⟩ := hs k x hk
  exact ⟨b, o, e, h.range hr⟩
theorem Ext.grow {A' : World} {r : Option Nat} (h : Ext A A1) (hg : A1.grownBy A' r) : A.grownBy (Go.Dw.J.norm A A') r :=
  ⟨hg.os.trans h.choose_spec.2.1, rfl, hg.output.trans h.choose_spec.2.2, Nat.le_trans h.size hg.size, fun b hb hne => (hg.block b (Nat.lt_of_lt_of_le hb h.size) hne).trans (h.get hb)⟩
theorem Ext.grown0 (h : Ext A A1) : A.grownBy { A1 with tape := A.tape } none := ⟨h.choose_spec.2.1, rfl, h.choose_spec.2.2, h.size, fun b hb _ => h.get hb⟩
theorem Ext.own (h : Ext A A1) {B : Nat} {T : TypeId} {sz cap n : Nat} {vs : List Value} (ho : Own A B T sz cap n vs) : Own A1 B T sz cap n vs := by
  have := Own.grown0 ho (grown0 h)
  exact this
theorem Ext.ownN (h : Ext A A1) {lo : Nat} {a : Option Addr} {T : TypeId} {sz cap n : Nat} {vs : List Value} (ho : OwnN lo A a T sz cap n vs) : OwnN lo A1 a T sz cap n vs := by
  have := OwnN.grown0 ho (grown0 h)
  exact this
end
structure NewB (w w' : World) (B : Nat) (T : TypeId) (cs : Array Value) : Prop where
  ge : w.heap.size ≤ B
  blk : Blk w' B T cs
  grw : w.grownBy w' none
structure SetB (w w' : World) (b : Nat) (T : TypeId) (cs : Array Value) : Prop where
  blk : Blk w' b T cs
  grw : w.grownBy w' (some b)
structure NewO (w w' : World) (B : Nat) (T : TypeId) (sz cap n : Nat) (vs : List Value) : Prop where
  ge : w.heap.size ≤ B
  own : Own w' B T sz cap n vs
  grw : w.grownBy w' none
theorem NewB.of {w A1 w' : World} {B : Nat} {T : TypeId} {cs : Array Value} (hE : Ext w A1) (h : Go.Dw.NewB A1 w' B T cs) : NewB w (norm w w') B T cs := ⟨by rw [h.eq]; exact hE.size, h.blk, hE.grow h.grw⟩
theorem SetB.of {w A1 w' : World} {b : Nat} {T : TypeId} {cs : Array Value} (hE : Ext w A1) (h : Go.Dw.SetB A1 w' b T cs) : SetB w (norm w w') b T cs := ⟨h.blk, hE.grow h.grw⟩
theorem NewO.of {w A1 w' : World} {B : Nat} {T : TypeId} {sz cap n : Nat} {vs : List Value} (hE : Ext w A1) (h : Go.Dw.NewO A1 w' B T sz cap n vs) : NewO w (norm w w') B T sz cap n vs := ⟨by rw [h.eq]; exact hE.size, h.own, hE.grow h.grw⟩
theorem Xy {w a b : World} {r : Option Nat} {B : Nat} {T : TypeId} {cs : Array Value} (h : NewB a b B T cs) (hl : w.grownBy a r) : w.heap.size ≤ B := Nat.le_trans hl.size h.ge
theorem Xn {a b : World} {B C : Nat} {T : TypeId} {cs : Array Value} (h : NewB a b B T cs) (hk : C < a.heap.size) : C < B := Nat.lt_of_lt_of_le hk h.ge
def Plain (s : Sem Next) : Prop := ∀ P w x w', s.run P w = .ok x w' → (∃ v, x = .value v) ∨ x = .skip
theorem Ug (v : Value) : Plain (pure (.value v)) := fun P w x w' h => by
  simp only [Sem.run_pure, Result.ok.injEq] at h
  exact Or.inl ⟨v, h.1.symm⟩
theorem Gu {α : Type} {s : Sem α} {k : α → Sem Next} (hk : ∀ x, Plain (k x)) : Plain (s >>= k) := fun P w x w' h => by
  rw [Sem.run_bind] at h
  cases hs : s.run P w with
  | ok y w1 => rw [hs] at h; exact hk y P w1 x w' h
  | halt e w1 => rw [hs] at h; cases h
theorem Yo (s : Sem Value) : Plain (do pure (.value (← s))) := Gu fun _ => Ug _
theorem Wk (s : Sem Unit) : Plain (do s; pure .skip) := Gu fun _ P w x w' h => by
  simp only [Sem.run_pure, Result.ok.injEq] at h
  exact Or.inr h.1.symm
theorem qu {P : Program} {s : Sem Unit} (h : Quiet P s) : Quiet P (do s; pure .skip : Sem Next) := qb h fun _ => trivial
section
variable {P : Program} {f : Fr} {d : Option Nat} {ty : TypeId} {pos : String} {aft : Array Edge} {g : Option (Nat × Bool)}
theorem L6 {b : Builtin} {args : Array Operand} {tys : Array TypeId} (h : Quiet P (builtin b tys ty (args.map fun | .const _ => true | _ => false) (args.map (ev f)))) : Quiet P (execOp (ev f) ⟨d, .call ⟨.builtin b, args, tys⟩, ty, pos, aft, g⟩) := h
theorem Tb {args : Array Operand} {tys : Array TypeId} : Plain (execOp (ev f) ⟨d, .call ⟨.builtin .len, args, tys⟩, ty, pos, aft, g⟩) := Yo (Builtin.len_ tys ty (args.map (ev f)))
theorem Wj {args : Array Operand} {tys : Array TypeId} : Plain (execOp (ev f) ⟨d, .call ⟨.builtin .append, args, tys⟩, ty, pos, aft, g⟩) := Yo (Builtin.append_ tys ty (args.map (ev f)))
end
theorem Sf {P : Program} {t e sz bytes : Nat} {z : Option Value} (h : mkTy P t = some (e, sz, bytes, z)) : P.underlying t = some (.slice e) := by
  unfold mkTy at h
  split at h
  · rename_i el hu
    cases hq : P.info? el with
    | none => rw [hq] at h; cases h
    | some i =>
      rw [hq] at h
      simp only [Option.map_some, Option.some.injEq, Prod.mk.injEq] at h
      rw [hu, h.1]
  · cases h
section
variable [Comp] {P : Program} {n : Nat} {ops : Array Oper} {K : Fr → World → Prop} {l : List Oper} {f : Fr} {A : World} {o : Oper}
theorem execOp_congr {ρ : Operand → Value} {o o' : Oper} (h1 : o'.op = o.op) (h2 : o'.type = o.type) : execOp ρ o' = execOp ρ o := by
  unfold execOp
  rw [h1, h2]
theorem keep {A A1 : World} (hE : Ext A A1) (h : WpO P n ops K l f A) : WpO P n ops K l f (norm A A1) := h.ext hE.norm rfl
theorem Cy {K' : Fr → World → Prop} {A1 : World} {a : Act} (hg : o.guard = none) (hp : Plain (execOp (ev f) o)) (ha : FEq n a f) (h : Go.Dw.WpO P n ops K' [o] f A1) :
    ∃ x A1', (execOp a.eval o).run P A1 = .ok x A1' ∧ ((∃ v, x = .value v ∧ ∃ f', FEq n (a.put o.dst v) f' ∧ K' f' A1') ∨ (x = .skip ∧ ∃ f', FEq n (a.put o.dst undef) f' ∧ K' f' A1')) := by
  have h1 := h a ha (fun e a' w' => match e with | .normal => ∃ f', FEq n a' f' ∧ K' f' w' | _ => False) (fun a' w' f' hf hK => ⟨f', hf, hK⟩)
  unfold wpList at h1
  rw [if_pos (by simp [Region.wanted, hg])] at h1
  rcases h1 with h1 | ⟨_, a0, w0, h0⟩
  · unfold Oper.wp at h1
    rw [ha.eval] at h1 ⊢
    cases hr : (execOp (ev f) o).run P A1 with
    | ok x A1' =>
      rw [hr] at h1
      refine ⟨x, A1', rfl, ?_⟩
      rcases hp P A1 x A1' hr with ⟨v, rfl⟩ | rfl
      · exact Or.inl ⟨v, rfl, h1⟩
      · exact Or.inr ⟨rfl, h1⟩
    | halt e A1' =>
      rw [hr] at h1
      cases e <;> exact h1.elim
  · exact h0.elim
theorem jop (hg : o.guard = none) (hq : Quiet P (execOp (ev f) o)) (hp : Plain (execOp (ev f) o)) (h : ∀ A1, Ext A A1 → Go.Dw.WpO P n ops (fun f' A1' => WpO P n ops K l f' (norm A A1')) [o] f A1) : WpO P n ops K (o :: l) f A := fun a ha =>
  Or.inl ⟨by simp [Region.wanted, hg], Or.inl ⟨by rw [ha.eval]; exact hq, fun A1 hE => by
    obtain ⟨x, A1', hr, hx⟩ := Cy hg hp ha (h A1 hE)
    rcases hx with ⟨v, e, f', hf, hK⟩ | ⟨e, f', hf, hK⟩
    · exact ⟨x, v, A1', hr, Or.inl e, f', hf, hK⟩
    · exact ⟨x, undef, A1', hr, Or.inr ⟨e, rfl⟩, f', hf, hK⟩⟩⟩
end
section
variable [Comp] {P : Program} {n : Nat} {ops : Array Oper} {K : Fr → World → Prop} {l : List Oper} {f : Fr} {w w' : World} {ty : TypeId} {pos : String} {aft : Array Edge} {d : Nat}
theorem wpo_move {x : Operand} {v : Value} (hx : ev f x = v) (hd : Nat.blt d n = true) (h : WpO P n ops K l (up f d v) w) : WpO P n ops K (⟨some d, .move x, ty, pos, aft, none⟩ :: l) f w :=
  jop rfl (qp _) (Ug _) fun A1 hE => Go.Dw.wpo_move hx hd (Go.Dw.wpo_nil (keep hE h))
theorem wpo_assign {x : Operand} {v : Value} (hx : ev f x = v) (hd : Nat.blt d n = true) (h : WpO P n ops K l (up f d v) w) : WpO P n ops K (⟨some d, .assign x, ty, pos, aft, none⟩ :: l) f w :=
  jop rfl (qp _) (Ug _) fun A1 hE => Go.Dw.wpo_assign hx hd (Go.Dw.wpo_nil (keep hE h))
theorem wpo_pickt {c x y : Operand} {b : Bool} {v : Value} (hc : ev f c = .bool b) (hb : b = true) (hx : ev f x = v) (hd : Nat.blt d n = true) (h : WpO P n ops K l (up f d v) w) : WpO P n ops K (⟨some d, .pick c x y, ty, pos, aft, none⟩ :: l) f w :=
  jop rfl (qb (Qj _) fun _ => qp _) (Gu fun _ => Ug _) fun A1 hE => Go.Dw.wpo_pickt hc hb hx hd (Go.Dw.wpo_nil (keep hE h))
theorem wpo_pickf {c x y : Operand} {b : Bool} {v : Value} (hc : ev f c = .bool b) (hb : b = false) (hy : ev f y = v) (hd : Nat.blt d n = true) (h : WpO P n ops K l (up f d v) w) : WpO P n ops K (⟨some d, .pick c x y, ty, pos, aft, none⟩ :: l) f w :=
  jop rfl (qb (Qj _) fun _ => qp _) (Gu fun _ => Ug _) fun A1 hE => Go.Dw.wpo_pickf hc hb hy hd (Go.Dw.wpo_nil (keep hE h))
theorem wpo_box {T : TypeId} {x : Operand} {v : Value} {cs : Array Value} (hx : ev f x = v) (hcs : v.cells = cs) (hd : Nat.blt d n = true) (h : ∀ B w', NewB w w' B T cs → WpO P n ops K l (up f d (.pointer (some ⟨B, 0, none⟩))) w') : WpO P n ops K (⟨some d, .box T x, ty, pos, aft, none⟩ :: l) f w :=
  jop rfl (qv (Ih _ _)) (Yo _) fun A1 hE => Go.Dw.wpo_box hx hcs hd (fun B w' hN => Go.Dw.wpo_nil (h B (norm w w') (NewB.of hE hN)))
theorem wpo_alloc {T : TypeId} {z : Value} {cs : Array Value} (hz : zeroTy P T = some z) (hcs : z.cells = cs) (hd : Nat.blt d n = true) (h : ∀ B w', NewB w w' B T cs → WpO P n ops K l (up f d (.pointer (some ⟨B, 0, none⟩))) w') : WpO P n ops K (⟨some d, .alloc T, ty, pos, aft, none⟩ :: l) f w :=
  jop rfl (qv (C4 _)) (Yo _) fun A1 hE => Go.Dw.wpo_alloc hz hcs hd (fun B w' hN => Go.Dw.wpo_nil (h B (norm w w') (NewB.of hE hN)))
theorem wpo_load1 {t : TypeId} {x : Operand} {a : Addr} {v : Value} (ht : oneTy P t = true) (hx : ev f x = .pointer (some a)) (hc : w.cell? a = some v) (hd : Nat.blt d n = true) (h : WpO P n ops K l (up f d v) w) : WpO P n ops K (⟨some d, .load t x, ty, pos, aft, none⟩ :: l) f w :=
  jop rfl (qv (Pf _ _)) (Yo _) fun A1 hE => Go.Dw.wpo_load1 ht hx (hE.cell hc) hd (Go.Dw.wpo_nil (keep hE h))
theorem wpo_loadn {t k b o : Nat} {x : Operand} {vs : List Value} (ht : rowTy P t = some k) (hx : ev f x = .pointer (some ⟨b, o, none⟩)) (hl : vs.length = k) (hr : w.rangeAt b o vs) (hd : Nat.blt d n = true) (h : WpO P n ops K l (up f d (.agg vs.toArray)) w) : WpO P n ops K (⟨some d, .load t x, ty, pos, aft, none⟩ :: l) f w :=
  jop rfl (qv (Pf _ _)) (Yo _) fun A1 hE => Go.Dw.wpo_loadn ht hx hl (hE.range hr) hd (Go.Dw.wpo_nil (keep hE h))
theorem wpo_store1 {t b o : Nat} {x y : Operand} {T : TypeId} {cs cs' : Array Value} {v : Value} (ht : oneTy P t = true) (hx : ev f x = .pointer (some ⟨b, o, none⟩)) (hy : ev f y = v) (h1 : v.oneCell' = true) (hb : Blk w b T cs) (ho : o < cs.size) (hcs : cs.setIfInBounds o v = cs') (h : ∀ w', SetB w w' b T cs' → WpO P n ops K l f w') : WpO P n ops K (⟨none, .store t x y, ty, pos, aft, none⟩ :: l) f w :=
  jop rfl (qu (Ki _ _ _)) (Wk _) fun A1 hE => Go.Dw.wpo_store1 ht hx hy h1 (hE.blk hb) ho hcs (fun w' hS => Go.Dw.wpo_nil (h (norm w w') (SetB.of hE hS)))
theorem wpo_storen {t k b o : Nat} {x y : Operand} {T : TypeId} {cs cs' : Array Value} {vs : List Value} (ht : rowTy P t = some k) (hx : ev f x = .pointer (some ⟨b, o, none⟩)) (hy : ev f y = .agg vs.toArray) (hl : vs.length = k) (h1 : ∀ v ∈ vs, v.oneCell' = true) (hb : Blk w b T cs) (ho : o + k ≤ cs.size) (hcs : (cs.toList.take o ++ vs ++ cs.toList.drop (o + k)).toArray = cs') (h : ∀ w', SetB w w' b T cs' → WpO P n ops K l f w') : WpO P n ops K (⟨none, .store t x y, ty, pos, aft, none⟩ :: l) f w :=
  jop rfl (qu (Ki _ _ _)) (Wk _) fun A1 hE => Go.Dw.wpo_storen ht hx hy hl h1 (hE.blk hb) ho hcs (fun w' hS => Go.Dw.wpo_nil (h (norm w w') (SetB.of hE hS)))
theorem wpo_fieldAddr {s k j b o o' : Nat} {x : Operand} (hf : fieldOff P s k = some j) (hx : ev f x = .pointer (some ⟨b, o, none⟩)) (e : o + j = o') (hd : Nat.blt d n = true) (h : WpO P n ops K l (up f d (.pointer (some ⟨b, o', none⟩))) w) : WpO P n ops K (⟨some d, .fieldAddr s x k, ty, pos, aft, none⟩ :: l) f w :=
  jop rfl (qv (Tl hf _)) (Yo _) fun A1 hE => Go.Dw.wpo_fieldAddr hf hx e hd (Go.Dw.wpo_nil (keep hE h))
theorem wpo_indexAddr {t sz b o o' len cap : Nat} {x y : Operand} {k : IntKind} {i : Int} (ht : elemSz P t = some sz) (hx : ev f x = .slice (some ⟨b, o, none⟩) len cap) (hy : ev f y = .int k i) (h0 : 0 ≤ i) (h1 : i < len) (e : o + i.toNat * sz = o') (hd : Nat.blt d n = true) (h : WpO P n ops K l (up f d (.pointer (some ⟨b, o', none⟩))) w) : WpO P n ops K (⟨some d, .indexAddr t x y, ty, pos, aft, none⟩ :: l) f w :=
  jop rfl (qv (Tm _ _ _)) (Yo _) fun A1 hE => Go.Dw.wpo_indexAddr ht hx hy h0 h1 e hd (Go.Dw.wpo_nil (keep hE h))
theorem Xx {t sz len cap b q o' : Nat} {a : Option Addr} {x y : Operand} {k : IntKind} {i : Int} (ht : elemSz P t = some sz) (hx : ev f x = .slice a len cap) (hy : ev f y = .int k i) (ha : a = some ⟨b, q, none⟩) (e : q + i.toNat * sz = o') (h0 : 0 ≤ i) (h1 : i < len)
    (hd : Nat.blt d n = true) (h : WpO P n ops K l (up f d (.pointer (some ⟨b, o', none⟩))) w) : WpO P n ops K (⟨some d, .indexAddr t x y, ty, pos, aft, none⟩ :: l) f w := by
  subst ha
  exact wpo_indexAddr ht hx hy h0 h1 e hd h
theorem wpo_len {t : TypeId} {a : Option Addr} {m c : Nat} {x : Operand} (ht : (match P.underlying t with | some (.slice _) => true | _ => false) = true) (hx : ev f x = .slice a m c) (hd : Nat.blt d n = true) (h : WpO P n ops K l (up f d (.int .i64 (m : Int))) w) : WpO P n ops K (⟨some d, .call ⟨.builtin .len, #[x], #[t]⟩, ty, pos, aft, none⟩ :: l) f w :=
  jop rfl (L6 (by rw [show (#[x]).map (ev f) = #[Value.slice a m c] from by simp [hx]]; exact qv (Ii (fun r => ⟨by simp, by simp⟩)))) (Tb) fun A1 hE => Go.Dw.wpo_len ht hx hd (Go.Dw.wpo_nil (keep hE h))
theorem wpo_nilCheck {x : Operand} {a : Addr} (hx : ev f x = .pointer (some a)) (hd : Nat.blt d n = true) (h : WpO P n ops K l (up f d (.pointer (some a))) w) : WpO P n ops K (⟨some d, .nilCheck x, ty, pos, aft, none⟩ :: l) f w :=
  jop rfl (by simp only [execOp, hx]; exact qp _) (by simp only [execOp, hx]; exact Ug _) fun A1 hE => Go.Dw.wpo_nilCheck hx hd (Go.Dw.wpo_nil (keep hE h))
theorem wpo_extract {x : Operand} {i : Nat} {vs : Array Value} {v : Value} (hx : ev f x = .tuple vs) (hv : vs[i]? = some v) (hd : Nat.blt d n = true) (h : WpO P n ops K l (up f d v) w) : WpO P n ops K (⟨some d, .extract x i, ty, pos, aft, none⟩ :: l) f w :=
  jop rfl (qv (Tk _ _)) (Yo _) fun A1 hE => Go.Dw.wpo_extract hx hv hd (Go.Dw.wpo_nil (keep hE h))
theorem wpo_not {t : TypeId} {x : Operand} {b b' : Bool} (hx : ev f x = .bool b) (hb : (!b) = b') (hd : Nat.blt d n = true) (h : WpO P n ops K l (up f d (.bool b')) w) : WpO P n ops K (⟨some d, .unOp .not t x, ty, pos, aft, none⟩ :: l) f w :=
  jop rfl (qv (Db _ _)) (Yo _) fun A1 hE => Go.Dw.wpo_not hx hb hd (Go.Dw.wpo_nil (keep hE h))
theorem wpo_build {t : TypeId} {parts : Array (Nat × Operand)} {ps : List (Nat × Value)} {v : Value} (hp : parts.toList.map (fun p => (p.1, ev f p.2)) = ps) (hb : ∀ w, (Instr.build t ps.toArray).run P w = .ok v w) (hd : Nat.blt d n = true) (h : WpO P n ops K l (up f d v) w) : WpO P n ops K (⟨some d, .build t parts, ty, pos, aft, none⟩ :: l) f w :=
  jop rfl (qv (C6 _ _)) (Yo _) fun A1 hE => Go.Dw.wpo_build hp (hb A1) hd (Go.Dw.wpo_nil (keep hE h))
theorem wpo_makeFunc {k : FuncId} {cap : Array Operand} {vs : List Value} (hc : cap.toList.map (ev f) = vs) (hd : Nat.blt d n = true) (h : WpO P n ops K l (up f d (.func (.func k) #[] vs.toArray)) w) : WpO P n ops K (⟨some d, .makeFunc (.func k) #[] cap, ty, pos, aft, none⟩ :: l) f w :=
  jop rfl (qv (qp _)) (Yo _) fun A1 hE => Go.Dw.wpo_makeFunc hc hd (Go.Dw.wpo_nil (keep hE h))
theorem wpo_conv {s t : TypeId} {x : Operand} {k k' : IntKind} {a c : Int} (hx : ev f x = .int k a) (hs : (P.underlying s).isSome = true) (ht : P.underlying t = some (.int k')) (hc : k'.wrap a = c) (hd : Nat.blt d n = true) (h : WpO P n ops K l (up f d (.int k' c)) w) : WpO P n ops K (⟨some d, .convert s t x, ty, pos, aft, none⟩ :: l) f w :=
  jop rfl (by simp only [execOp, hx]; exact qv (Ti hs ht)) (Yo _) fun A1 hE => Go.Dw.wpo_conv hx hs ht hc hd (Go.Dw.wpo_nil (keep hE h))
theorem wpo_eqs {bo : BinOp} {t yt : TypeId} {x y : Operand} {u v : Value} {q q' : Bool} (hx : ev f x = u) (hy : ev f y = v) (hu : flat1 u = true) (hv : flat1 v = true) (hg : ∀ w, (eqGuard bo t x y u v).run P w = .ok () w) (hr : ∀ w, (binOp bo t u v).run P w = .ok (.bool q') w) (hq : q' = q) (hd : Nat.blt d n = true) (h : WpO P n ops K l (up f d (.bool q)) w) : WpO P n ops K (⟨some d, .binOp bo t x y yt, ty, pos, aft, none⟩ :: l) f w :=
  jop rfl (J8 (Y3 hx hu) (Y3 hy hv)) (Yo _) fun A1 hE => Go.Dw.wpo_eqs hx hy (hg A1) (hr A1) hq hd (Go.Dw.wpo_nil (keep hE h))
theorem wpo_bin {bo : BinOp} {xt yt : TypeId} {x y : Operand} {u u' v : Value} (hx : ev f x = u) (hy : ev f y = u') (hu : flat1 u = true) (hv : flat1 u' = true) (hr : ∀ w, (binOp bo xt u u').run P w = .ok v w) (hg : ∀ x y, eqGuard bo xt x y u u' = pure ()) (hd : Nat.blt d n = true) (h : WpO P n ops K l (up f d v) w) : WpO P n ops K (⟨some d, .binOp bo xt x y yt, ty, pos, aft, none⟩ :: l) f w :=
  jop rfl (J8 (Y3 hx hu) (Y3 hy hv)) (Yo _) fun A1 hE => Go.Dw.wpo_bin hx hy (hr A1) hg hd (Go.Dw.wpo_nil (keep hE h))
theorem wpo_add {xt yt : TypeId} {x y : Operand} {a b c : Int} (hx : ev f x = .int .i64 a) (hy : ev f y = .int .i64 b) (hc : a + b = c) (h0 : -9223372036854775808 ≤ c) (h1 : c ≤ 9223372036854775807) (hd : Nat.blt d n = true) (h : WpO P n ops K l (up f d (.int .i64 c)) w) : WpO P n ops K (⟨some d, .binOp .add xt x y yt, ty, pos, aft, none⟩ :: l) f w :=
  jop rfl (J8 (Y3 hx rfl) (Y3 hy rfl)) (Yo _) fun A1 hE => Go.Dw.wpo_add hx hy hc h0 h1 hd (Go.Dw.wpo_nil (keep hE h))
theorem wpo_sub {xt yt : TypeId} {x y : Operand} {a b c : Int} (hx : ev f x = .int .i64 a) (hy : ev f y = .int .i64 b) (hc : a - b = c) (h0 : -9223372036854775808 ≤ c) (h1 : c ≤ 9223372036854775807) (hd : Nat.blt d n = true) (h : WpO P n ops K l (up f d (.int .i64 c)) w) : WpO P n ops K (⟨some d, .binOp .sub xt x y yt, ty, pos, aft, none⟩ :: l) f w :=
  jop rfl (J8 (Y3 hx rfl) (Y3 hy rfl)) (Yo _) fun A1 hE => Go.Dw.wpo_sub hx hy hc h0 h1 hd (Go.Dw.wpo_nil (keep hE h))
theorem wpo_quo {xt yt : TypeId} {x y : Operand} {a b c : Int} (hx : ev f x = .int .i64 a) (hy : ev f y = .int .i64 b) (h0 : 0 ≤ a) (h1 : 0 < b) (h2 : a ≤ 9223372036854775807) (hc : a / b = c) (hd : Nat.blt d n = true) (h : WpO P n ops K l (up f d (.int .i64 c)) w) : WpO P n ops K (⟨some d, .binOp .quo xt x y yt, ty, pos, aft, none⟩ :: l) f w :=
  jop rfl (J8 (Y3 hx rfl) (Y3 hy rfl)) (Yo _) fun A1 hE => Go.Dw.wpo_quo hx hy h0 h1 h2 hc hd (Go.Dw.wpo_nil (keep hE h))
theorem wpo_rem {xt yt : TypeId} {x y : Operand} {a b c : Int} (hx : ev f x = .int .i64 a) (hy : ev f y = .int .i64 b) (h0 : 0 ≤ a) (h1 : 0 < b) (_h2 : a ≤ 9223372036854775807) (hc : a % b = c) (hd : Nat.blt d n = true) (h : WpO P n ops K l (up f d (.int .i64 c)) w) : WpO P n ops K (⟨some d, .binOp .rem xt x y yt, ty, pos, aft, none⟩ :: l) f w :=
  jop rfl (J8 (Y3 hx rfl) (Y3 hy rfl)) (Yo _) fun A1 hE => Go.Dw.wpo_rem hx hy h0 h1 _h2 hc hd (Go.Dw.wpo_nil (keep hE h))
theorem wpo_mul {xt yt : TypeId} {x y : Operand} {a b c : Int} (hx : ev f x = .int .i64 a) (hy : ev f y = .int .i64 b) (hc : a * b = c) (h0 : -9223372036854775808 ≤ c) (h1 : c ≤ 9223372036854775807) (hd : Nat.blt d n = true) (h : WpO P n ops K l (up f d (.int .i64 c)) w) : WpO P n ops K (⟨some d, .binOp .mul xt x y yt, ty, pos, aft, none⟩ :: l) f w :=
  jop rfl (J8 (Y3 hx rfl) (Y3 hy rfl)) (Yo _) fun A1 hE => Go.Dw.wpo_mul hx hy hc h0 h1 hd (Go.Dw.wpo_nil (keep hE h))
theorem wpo_lss {xt yt : TypeId} {x y : Operand} {k : IntKind} {a b : Int} {q : Bool} (hx : ev f x = .int k a) (hy : ev f y = .int k b) (hq : decide (a < b) = q) (hd : Nat.blt d n = true) (h : WpO P n ops K l (up f d (.bool q)) w) : WpO P n ops K (⟨some d, .binOp .lss xt x y yt, ty, pos, aft, none⟩ :: l) f w :=
  jop rfl (J8 (Y3 hx rfl) (Y3 hy rfl)) (Yo _) fun A1 hE => Go.Dw.wpo_lss hx hy hq hd (Go.Dw.wpo_nil (keep hE h))
theorem wpo_leq {xt yt : TypeId} {x y : Operand} {k : IntKind} {a b : Int} {q : Bool} (hx : ev f x = .int k a) (hy : ev f y = .int k b) (hq : decide (a ≤ b) = q) (hd : Nat.blt d n = true) (h : WpO P n ops K l (up f d (.bool q)) w) : WpO P n ops K (⟨some d, .binOp .leq xt x y yt, ty, pos, aft, none⟩ :: l) f w :=
  jop rfl (J8 (Y3 hx rfl) (Y3 hy rfl)) (Yo _) fun A1 hE => Go.Dw.wpo_leq hx hy hq hd (Go.Dw.wpo_nil (keep hE h))
theorem wpo_gtr {xt yt : TypeId} {x y : Operand} {k : IntKind} {a b : Int} {q : Bool} (hx : ev f x = .int k a) (hy : ev f y = .int k b) (hq : decide (b < a) = q) (hd : Nat.blt d n = true) (h : WpO P n ops K l (up f d (.bool q)) w) : WpO P n ops K (⟨some d, .binOp .gtr xt x y yt, ty, pos, aft, none⟩ :: l) f w :=
  jop rfl (J8 (Y3 hx rfl) (Y3 hy rfl)) (Yo _) fun A1 hE => Go.Dw.wpo_gtr hx hy hq hd (Go.Dw.wpo_nil (keep hE h))
theorem wpo_geq {xt yt : TypeId} {x y : Operand} {k : IntKind} {a b : Int} {q : Bool} (hx : ev f x = .int k a) (hy : ev f y = .int k b) (hq : decide (b ≤ a) = q) (hd : Nat.blt d n = true) (h : WpO P n ops K l (up f d (.bool q)) w) : WpO P n ops K (⟨some d, .binOp .geq xt x y yt, ty, pos, aft, none⟩ :: l) f w :=
  jop rfl (J8 (Y3 hx rfl) (Y3 hy rfl)) (Yo _) fun A1 hE => Go.Dw.wpo_geq hx hy hq hd (Go.Dw.wpo_nil (keep hE h))
theorem wpo_eql {xt yt : TypeId} {x y : Operand} {k : IntKind} {a b : Int} {q : Bool} (hx : ev f x = .int k a) (hy : ev f y = .int k b) (hq : decide (a = b) = q) (hd : Nat.blt d n = true) (h : WpO P n ops K l (up f d (.bool q)) w) : WpO P n ops K (⟨some d, .binOp .eql xt x y yt, ty, pos, aft, none⟩ :: l) f w :=
  jop rfl (J8 (Y3 hx rfl) (Y3 hy rfl)) (Yo _) fun A1 hE => Go.Dw.wpo_eql hx hy hq hd (Go.Dw.wpo_nil (keep hE h))
theorem wpo_neq {xt yt : TypeId} {x y : Operand} {k : IntKind} {a b : Int} {q : Bool} (hx : ev f x = .int k a) (hy : ev f y = .int k b) (hq : (!decide (a = b)) = q) (hd : Nat.blt d n = true) (h : WpO P n ops K l (up f d (.bool q)) w) : WpO P n ops K (⟨some d, .binOp .neq xt x y yt, ty, pos, aft, none⟩ :: l) f w :=
  jop rfl (J8 (Y3 hx rfl) (Y3 hy rfl)) (Yo _) fun A1 hE => Go.Dw.wpo_neq hx hy hq hd (Go.Dw.wpo_nil (keep hE h))
theorem wpo_make {α : Type} {g : α → List Value} {z : α} {t e sz bytes c : Nat} {v : Value} {x y : Operand} (ht : mkTy P t = some (e, sz, bytes, some v)) (hv : v.cells = (g z).toArray) (hg : Wide g sz) (h0 : 0 < sz) (hx : ev f x = .int .i64 (c : Int)) (hy : ev f y = .int .i64 (c : Int)) (hb : bytes * c ≤ 281474976710656) (h63 : c ≤ 9223372036854775807) (hd : Nat.blt d n = true) (h : ∀ B w', NewB w w' B e ((List.replicate c z).flatMap g).toArray → WpO P n ops K l (up f d (.slice (some ⟨B, 0, none⟩) c c)) w') : WpO P n ops K (⟨some d, .makeSlice t x y, ty, pos, aft, none⟩ :: l) f w :=
  jop rfl (qv (Pg _ _ _)) (Yo _) fun A1 hE => Go.Dw.wpo_make ht hv hg h0 hx hy hb h63 hd (fun B w' hN => Go.Dw.wpo_nil (h B (norm w w') (NewB.of hE hN)))
theorem wpo_cut {t : TypeId} {x y : Operand} {a : Option Addr} {m c h : Nat} {k : IntKind} {e sz : Nat} (ht : P.underlying t = some (.slice e)) (hs : (P.info? e).map (·.size) = some sz) (hx : ev f x = .slice a m c) (hy : ev f y = .int k (h : Int)) (hc : h ≤ c) (hd : Nat.blt d n = true) (hk : WpO P n ops K l (up f d (.slice a h c)) w) : WpO P n ops K (⟨some d, .slice t x none (some y) none, ty, pos, aft, none⟩ :: l) f w :=
  jop rfl (qv (Lb _ _ _ _ _)) (Yo _) fun A1 hE => Go.Dw.wpo_cut ht hs hx hy hc hd (Go.Dw.wpo_nil (keep hE hk))
theorem wpo_buildSlice {t len : Nat} {parts : Array (Nat × Operand)} {ps : List (Nat × Value)} {e : TypeId} {cs : Array Value} (hp : parts.toList.map (fun p => (p.1, ev f p.2)) = ps) (hb : ∀ w, (Instr.buildSlice t len ps.toArray).run P w = .ok (.slice (some ⟨w.heap.size, 0, none⟩) len len) (w.alloc (.cells cs e))) (hd : Nat.blt d n = true) (h : ∀ B w', NewB w w' B e cs → WpO P n ops K l (up f d (.slice (some ⟨B, 0, none⟩) len len)) w') : WpO P n ops K (⟨some d, .buildSlice t len parts, ty, pos, aft, none⟩ :: l) f w :=
  jop rfl (qv (L5 _ _ _)) (Yo _) fun A1 hE => Go.Dw.wpo_buildSlice hp hb hd (fun B w' hN => Go.Dw.wpo_nil (h B (norm w w') (NewB.of hE hN)))
theorem wpo_append {α : Type} {g : α → List Value} {t e sz bytes cap c : Nat} {z : Value} {x y : Operand} {B : Nat} {ys zs : List α} {a : Addr} (ht : mkTy P t = some (e, sz, bytes, some z)) (hz : z.cells.size = sz) (hg : Wide g sz) (h0 : 0 < sz) (h1c : ∀ q : α, ∀ u ∈ g q, u.oneCell' = true) (hx : ev f x = .slice (some ⟨B, 0, none⟩) ys.length cap) (hy : ev f y = .slice (some a) zs.length c) (ho : Own w B e sz cap ys.length (ys.flatMap g)) (hs : SlAt w (some a) sz (zs.map g)) (hm : ys.length + zs.length ≤ 1099511627776) (hb : bytes ≤ 128) (hd : Nat.blt d n = true) (h : ∀ B' cap' w', Own w' B' e sz cap' (ys ++ zs).length ((ys ++ zs).flatMap g) → w.grownBy w' (some B) → (B' = B ∨ w.heap.size ≤ B') → WpO P n ops K l (up f d (.slice (some ⟨B', 0, none⟩) (ys ++ zs).length cap')) w') : WpO P n ops K (⟨some d, .call ⟨.builtin .append, #[x, y], #[t, t]⟩, ty, pos, aft, none⟩ :: l) f w :=
  jop rfl (L6 (by rw [show (#[x, y]).map (ev f) = #[Value.slice (some ⟨B, 0, none⟩) ys.length cap, Value.slice (some a) zs.length c] from by simp [hx, hy]]; exact qv (Pc (Sf ht) _ _))) (Wj) fun A1 hE => Go.Dw.wpo_append ht hz hg h0 h1c hx hy (hE.own ho) (hE.sl hs) hm hb hd (fun B' cap' w' hO hG hB => Go.Dw.wpo_nil (h B' cap' (norm w w') hO (hE.grow hG) (hB.imp id fun e => by rw [e]; exact hE.size)))
theorem wpo_appendN {α : Type} {g : α → List Value} {lo t e sz bytes cap c : Nat} {z : Value} {x y : Operand} {ax ay : Option Addr} {ys zs : List α} (ht : mkTy P t = some (e, sz, bytes, some z)) (hz : z.cells.size = sz) (hg : Wide g sz) (h0 : 0 < sz) (h1c : ∀ q : α, ∀ u ∈ g q, u.oneCell' = true) (hx : ev f x = .slice ax ys.length cap) (hy : ev f y = .slice ay zs.length c) (ho : OwnN lo w ax e sz cap ys.length (ys.flatMap g)) (hs : SlAt w ay sz (zs.map g)) (hc : ay = none → c = 0) (hm : ys.length + zs.length ≤ 1099511627776) (hb : bytes ≤ 128) (hlo : lo ≤ w.heap.size) (hd : Nat.blt d n = true) (h : ∀ a' cap' w', OwnN lo w' a' e sz cap' (ys ++ zs).length ((ys ++ zs).flatMap g) → w.grownBy w' (ax.map (·.block)) → (a'.map (·.block) = ax.map (·.block) ∨ ∃ B, a'.map (·.block) = some B ∧ w.heap.size ≤ B) → WpO P n ops K l (up f d (.slice a' (ys ++ zs).length cap')) w') : WpO P n ops K (⟨some d, .call ⟨.builtin .append, #[x, y], #[t, t]⟩, ty, pos, aft, none⟩ :: l) f w :=
  jop rfl (L6 (by rw [show (#[x, y]).map (ev f) = #[Value.slice ax ys.length cap, Value.slice ay zs.length c] from by simp [hx, hy]]; exact qv (Pc (Sf ht) _ _))) (Wj) fun A1 hE => Go.Dw.wpo_appendN ht hz hg h0 h1c hx hy (hE.ownN ho) (hE.sl hs) hc hm hb (Nat.le_trans hlo hE.size) hd (fun a' cap' w' hO hG hB => Go.Dw.wpo_nil (h a' cap' (norm w w') hO (hE.grow hG) (hB.imp id fun e => ⟨_, e, hE.size⟩)))
theorem wpo_store1O {α : Type} {g : α → List Value} {t b o sz cap k j : Nat} {T : TypeId} {x y : Operand} {v : Value} {ys : List α} {z z' : α} (ht : oneTy P t = true) (hx : ev f x = .pointer (some ⟨b, o, none⟩)) (hy : ev f y = v) (h1 : v.oneCell' = true) (hg : Wide g sz) (ho : Own w b T sz cap ys.length (ys.flatMap g)) (hk : ys[k]? = some z) (hj : j < sz) (e : o = k * sz + j) (hv : (g z).set j v = g z') (h : ∀ w', Own w' b T sz cap (ys.set k z').length ((ys.set k z').flatMap g) → w.grownBy w' (some b) → WpO P n ops K l f w') : WpO P n ops K (⟨none, .store t x y, ty, pos, aft, none⟩ :: l) f w :=
  jop rfl (qu (Ki _ _ _)) (Wk _) fun A1 hE => Go.Dw.wpo_store1O ht hx hy h1 hg (hE.own ho) hk hj e hv (fun w' hO hG => Go.Dw.wpo_nil (h (norm w w') hO (hE.grow hG)))
theorem wpo_storenO {α : Type} {g : α → List Value} {t b o sz cap k : Nat} {T : TypeId} {x y : Operand} {ys : List α} {z' : α} (ht : rowTy P t = some sz) (hx : ev f x = .pointer (some ⟨b, o, none⟩)) (hy : ev f y = .agg (g z').toArray) (h1 : ∀ v ∈ g z', v.oneCell' = true) (hg : Wide g sz) (ho : Own w b T sz cap ys.length (ys.flatMap g)) (hk : k < ys.length) (e : o = k * sz) (h : ∀ w', Own w' b T sz cap (ys.set k z').length ((ys.set k z').flatMap g) → w.grownBy w' (some b) → WpO P n ops K l f w') : WpO P n ops K (⟨none, .store t x y, ty, pos, aft, none⟩ :: l) f w :=
  jop rfl (qu (Ki _ _ _)) (Wk _) fun A1 hE => Go.Dw.wpo_storenO ht hx hy h1 hg (hE.own ho) hk e (fun w' hO hG => Go.Dw.wpo_nil (h (norm w w') hO (hE.grow hG)))
theorem wpo_storeD {t b o cap k : Nat} {T : TypeId} {x y : Operand} {ys : List Rt} {z' : Rt} (ht : rowTy P t = some 5) (hx : ev f x = .pointer (some ⟨b, o, none⟩)) (hy : ev f y = .agg z'.cells.toArray) (ho : Own w b T 5 cap ys.length (ys.flatMap Rt.cells)) (hk : k < ys.length) (e : o = k * 5) (h : ∀ w', PutR T b k z' w w' → w.grownBy w' (some b) → WpO P n ops K l f w') : WpO P n ops K (⟨none, .store t x y, ty, pos, aft, none⟩ :: l) f w :=
  jop rfl (qu (Ki _ _ _)) (Wk _) fun A1 hE => Go.Dw.wpo_storeD ht hx hy (hE.own ho) hk e (fun w' hO hG => Go.Dw.wpo_nil (h (norm w w') (fun cap' n' ys' ho' => hO cap' n' ys' (hE.own ho')) (hE.grow hG)))
theorem wpo_s2a {t e m sz len cap b q : Nat} {a : Option Addr} {x : Operand} (ht : arrTy P t = some (m, e, sz)) (hx : ev f x = .slice a len cap) (ha : a = some ⟨b, q, none⟩) (hm : m ≤ len) (hd : Nat.blt d n = true) (h : WpO P n ops K l (up f d (.pointer (some ⟨b, q, none⟩))) w) : WpO P n ops K (⟨some d, .sliceToArrayPointer t x, ty, pos, aft, none⟩ :: l) f w :=
  jop rfl (qv (Tg _ _)) (Yo _) fun A1 hE => Go.Dw.wpo_s2a ht hx ha hm hd (Go.Dw.wpo_nil (keep hE h))
theorem wpo_sliceArr {t e m sz b o : Nat} {x : Operand} (ht : arrTy P t = some (m, e, sz)) (hx : ev f x = .pointer (some ⟨b, o, none⟩)) (hm : 0 < m) (hd : Nat.blt d n = true) (h : WpO P n ops K l (up f d (.slice (some ⟨b, o, none⟩) m m)) w) : WpO P n ops K (⟨some d, .slice t x none none none, ty, pos, aft, none⟩ :: l) f w :=
  jop rfl (qv (Lb _ _ _ _ _)) (Yo _) fun A1 hE => Go.Dw.wpo_sliceArr ht hx hm hd (Go.Dw.wpo_nil (keep hE h))
theorem wpo_indexArr {α : Type} {g : α → List Value} {ys : List α} {z : α} {t e m sz : Nat} {k : IntKind} {i : Int} {x y : Operand} (ht : arrTy P t = some (m, e, sz)) (hr : rowTy P e = some sz) (hg : Wide g sz) (hx : ev f x = .agg (ys.flatMap g).toArray) (hy : ev f y = .int k i) (h0 : 0 ≤ i) (h1 : i < m) (hk : ys[i.toNat]? = some z) (hd : Nat.blt d n = true) (h : WpO P n ops K l (up f d (.agg (g z).toArray)) w) : WpO P n ops K (⟨some d, .index t x y, ty, pos, aft, none⟩ :: l) f w :=
  jop rfl (qv (C7 _ _ _)) (Yo _) fun A1 hE => Go.Dw.wpo_indexArr ht hr hg hx hy h0 h1 hk hd (Go.Dw.wpo_nil (keep hE h))
theorem Xc {d : Option Nat} {op : Op} {ty : TypeId} {pos : String} {aft : Array Edge} {j dj : Nat} {b b' : Bool} {oj : Oper} (hj : ops[j]? = some oj) (hdj : oj.dst = some dj) (hb : f dj = .bool b') (hbb : b' = b)
    (h : WpO P n ops K (⟨d, op, ty, pos, aft, none⟩ :: l) f w) : WpO P n ops K (⟨d, op, ty, pos, aft, some (j, b)⟩ :: l) f w :=
  fun a ha => by
    rcases h a ha with ⟨_, h2 | ⟨R, h2, h3⟩⟩ | ⟨h1, _⟩
    · exact Or.inl ⟨by simp [Region.wanted, Kw ha hj hdj hb, hbb], Or.inl h2⟩
    · exact Or.inl ⟨by simp [Region.wanted, Kw ha hj hdj hb, hbb], Or.inr ⟨R, h2, h3⟩⟩
    · simp [Region.wanted] at h1
theorem D7 {d : Nat} {op : Op} {ty : TypeId} {pos : String} {aft : Array Edge} {j : Nat} {b : Bool} (hw : ∀ a : Act, FEq n a f → Region.wanted ⟨some d, op, ty, pos, aft, some (j, b)⟩ (yielded ops a.tmps) = false)
    (hd : Nat.blt d n = true) (h : WpO P n ops K l (up f d undef) w) : WpO P n ops K (⟨some d, op, ty, pos, aft, some (j, b)⟩ :: l) f w :=
  fun a ha => Or.inr ⟨hw a ha, _, ha.put hd undef, h⟩
theorem Xd {d : Nat} {op : Op} {ty : TypeId} {pos : String} {aft : Array Edge} {j dj : Nat} {b b' : Bool} {oj : Oper} (hj : ops[j]? = some oj) (hdj : oj.dst = some dj) (hb : f dj = .bool b') (hbb : b' = !b)
    (hd : Nat.blt d n = true) (h : WpO P n ops K l (up f d undef) w) : WpO P n ops K (⟨some d, op, ty, pos, aft, some (j, b)⟩ :: l) f w :=
  D7 (fun a ha => by simp [Region.wanted, Kw ha hj hdj hb, hbb]) hd h
theorem Xz {d : Nat} {op : Op} {ty : TypeId} {pos : String} {aft : Array Edge} {j dj : Nat} {b : Bool} {oj : Oper} (hj : ops[j]? = some oj) (hdj : oj.dst = some dj) (hb : f dj = undef)
    (hd : Nat.blt d n = true) (h : WpO P n ops K l (up f d undef) w) : WpO P n ops K (⟨some d, op, ty, pos, aft, some (j, b)⟩ :: l) f w :=
  D7 (fun a ha => by simp [Region.wanted, Us ha hj hdj hb]) hd h
end
end Go.Dw.J
end
section
namespace Go.Dw.J
open Go.Dw Go.RowKit
open Go.Conc (G)
set_option linter.unusedVariables false
set_option linter.unusedSimpArgs false
set_option linter.unusedSectionVars false
theorem Bd {P : Program} {k : FuncId} (h : goFn P k = true) (args : Array Value) : Quiet P (callFunc k args) := by
  unfold goFn at h
  split at h
  · rename_i fn hf
    simp only [Bool.and_eq_true, Bool.not_eq_true'] at h
    obtain ⟨hb, hn⟩ := h
    have hb' : fn.body.isNone = false := by cases hh : fn.body <;> simp_all
    unfold callFunc
    refine qby Yp (R := (· = P)) rfl fun p hp => ?_
    subst hp
    simp only [hf, hn, hb', Bool.false_eq_true, if_false]
    exact qp _
  · cases h
section
variable [Comp] {P : Program} {n : Nat} {ops : Array Oper} {K : Fr → World → Prop} {l : List Oper} {f : Fr} {w : World} {o : Oper} {ty : TypeId} {pos : String} {aft : Array Edge} {d : Nat}
theorem W8 {k : FuncId} {args : Array Value} {R : Value → World → Prop} (hg : o.guard = none) (hd : okd n o.dst = true) (hq : Quiet P (execOp (ev f) o)) (hr : ∀ w, (execOp (ev f) o).run P w = .ok (.enter k args) w)
    (hc : CallsR P k args w R) (h : ∀ v w', R v w' → WpO P n ops K l (upo f o.dst v) w') : WpO P n ops K (o :: l) f w := fun a ha =>
  Or.inl ⟨by simp [Region.wanted, hg], Or.inr ⟨R, Uo (by rw [ha.eval]; exact hq) (fun A1 _ => ⟨_, by rw [ha.eval]; exact hr A1, Or.inl ⟨k, args, rfl, rfl⟩⟩) hc, fun v A' hR => ⟨_, ha.puto hd v, h v A' hR⟩⟩⟩
theorem Xg {k : FuncId} {args : Array Operand} {tys : Array TypeId} {vs : List Value} {R : Value → World → Prop} (hk : goFn P k = true) (ha : args.toList.map (ev f) = vs) (hd : Nat.blt d n = true) (hc : CallsR P k vs.toArray w R)
    (h : ∀ v w', R v w' → WpO P n ops K l (up f d v) w') : WpO P n ops K (⟨some d, .call ⟨.value (.func k), args, tys⟩, ty, pos, aft, none⟩ :: l) f w :=
  W8 (R := R) (k := k) (args := vs.toArray) rfl hd (Bd hk _) (fun w => by
    have : args.map (ev f) = vs.toArray := by rw [← ha]; apply Array.ext'; simp
    simp [execOp, resolve, ev, Deferred.ofValue, invoke, this, Uw hk]) hc h
end
def resV (P : Program) (fn : Func) (f : Fr) (w : World) (v : Value) : Prop := ∀ A1, Ext w A1 → Go.Dw.resV P fn f A1 v
def endQ (P : Program) (fn : Func) (R : Value → World → Prop) : Exit → Fr → World → Prop
  | .normal, f, w | .ret, f, w => ∃ v, resV P fn f w v ∧ R v w
  | _, _, _ => False
theorem res0 {P : Program} {fn : Func} {f : Fr} {w : World} (h : fn.results = #[]) : resV P fn f w (.tuple #[]) := fun _ _ => Go.Dw.res0 h
theorem res1 {P : Program} {fn : Func} {f : Fr} {w : World} {t : Nat} {v : Value} (h : fn.results = #[.tmp t]) (hv : f t = v) : resV P fn f w v := fun _ _ => Go.Dw.res1 h hv
theorem res2 {P : Program} {fn : Func} {f : Fr} {w : World} {t u : Nat} {v x : Value} (h : fn.results = #[.tmp t, .tmp u]) (hv : f t = v) (hx : f u = x) : resV P fn f w (.tuple #[v, x]) := fun _ _ => Go.Dw.res2 h hv hx
def resCell (P : Program) (f : Fr) (w : World) (t : Nat) (T : TypeId) (v : Value) : Prop := ∀ A1, Ext w A1 → Go.Dw.resCell P f A1 t T v
section
variable {P : Program} {fn : Func} {f : Fr} {w : World}
theorem resCell_mk {t T k b o : Nat} {vs : List Value} (ht : rowTy P T = some k) (hf : f t = .pointer (some ⟨b, o, none⟩)) (hl : vs.length = k) (hr : w.rangeAt b o vs) : resCell P f w t T (.agg vs.toArray) := fun A1 hE => Go.Dw.resCell_mk ht hf hl (hE.range hr)
theorem resCell_mk1 {t T b o : Nat} {v : Value} (ht : oneTy P T = true) (hf : f t = .pointer (some ⟨b, o, none⟩)) (hc : w.cell? ⟨b, o, none⟩ = some v) : resCell P f w t T v := fun A1 hE => Go.Dw.resCell_mk1 ht hf (hE.cell hc)
theorem resC {t T : Nat} {v : Value} (h : fn.results = #[.cell t T]) (hc : resCell P f w t T v) : resV P fn f w v := fun A1 hE => Go.Dw.resC h (hc A1 hE)
theorem resTC {s t T : Nat} {u v : Value} (h : fn.results = #[.tmp s, .cell t T]) (hs : f s = u) (hc : resCell P f w t T v) : resV P fn f w (.tuple #[u, v]) := fun A1 hE => Go.Dw.resTC h hs (hc A1 hE)
theorem resCT {s t T : Nat} {u v : Value} (h : fn.results = #[.cell t T, .tmp s]) (hc : resCell P f w t T v) (hs : f s = u) : resV P fn f w (.tuple #[v, u]) := fun A1 hE => Go.Dw.resCT h (hc A1 hE) hs
theorem La (fn : Func) (tmps : Array Value) : Quiet P (results fn tmps) := by
  unfold results
  refine qb (Bg (fun r => ?_) _) fun _ => qp _
  split
  · exact qp _
  · exact qb (Qp _) fun _ => Y0 _ _
end
section
variable [Comp] {P : Program} {J : Goroutine → World → Prop} {A : World}
theorem Closed.leave (hJ : Closed P J) {b c : Frame} {cs : List Frame} {a : Act} {fn : Func} {v : Value} (hn : b.kind = .normal) (hbd : b.defers = []) (hd : a.defers = []) (hf : P.funcs[b.fn]? = some fn) (hr : ∀ A1, Ext A A1 → (results fn a.tmps).run P A1 = .ok v A1)
    (h : J (G (c.finish v) cs) A) (todo : List Item) : J (G { ato b a todo with mode := .returning } (c :: cs)) A := by
  refine hJ.sem (s := results fn a.tmps) (next := fun v => G (c.finish v) cs) rfl (La fn a.tmps) (fun w x w' es hh => ⟨seen P b.fn es, ?_, fun e he => Go.Conc.mem_seen he⟩) fun A1 hE => ⟨v, A1, hr A1 hE, hJ.ext _ _ _ hE.norm rfl h⟩
  have e1 := Sem.runT_fst P (results fn a.tmps) w #[]
  rw [hh] at e1
  have e2 : (results fn a.tmps).events P w #[] = es := by unfold Sem.events; rw [hh]
  simp [G, stepG, unwind, doReturn, ato, hn, hd, hbd, hf, ← e1, e2, GStep.after]
theorem Xq {k : FuncId} {fn : Func} {c : Code} {args : Array Value} {R : Value → World → Prop} {n : Nat}
    (hf : P.funcs[k]? = some fn) (hb : fn.body = some c) (hn : fn.ntmps = n) (hs : Nat.ble args.size n = true)
    (h : Wpf P n (endQ P fn R) c (f0 args) A) : CallsR P k args A R := fun J hJ cf cs hk => by
  have hs' : args.size ≤ n := by simpa [Nat.ble_eq] using hs
  rw [Go.Conc.enter_at args hf hb, ← G1 (b := Go.Conc.base k) rfl rfl]
  have leave : ∀ (a' : Act) (f' : Fr) (A' : World) (todo : List Item), FEq n a' f' → (∃ v, resV P fn f' A' v ∧ R v A') → J (G { ato (Go.Conc.base k) a' todo with mode := .returning } (cf :: cs)) A' := fun a' f' A' todo hf' ⟨v, hv, hR⟩ =>
    hJ.leave (b := Go.Conc.base k) rfl rfl hf'.defers hf (fun A1 hE => hv A1 hE _ hf'.at_) (hk v A' hR) todo
  refine h J hJ (Go.Conc.base k) (by simp [Go.Conc.base]) [] (cf :: cs) _ ⟨rfl, by simp [hn]; omega, fun i => ?_⟩ fun e a' f' A' hf' hQ => ?_
  · simp only [f0, Ue, Array.getD_eq_getD_getElem?, Array.getElem?_toList]
    by_cases hi : i < args.size
    · rw [Array.getElem?_append_left hi]
    · rw [Array.getElem?_append_right (by omega), Array.getElem?_eq_none (by omega : args.size ≤ i)]
      by_cases h2 : i - args.size < fn.ntmps - args.size
      · simp [h2]
      · rw [Array.getElem?_eq_none (by simp; omega)]
  · cases e with
    | normal => exact hJ.move rfl (fun w => W7 rfl) (leave a' f' A' _ hf' hQ)
    | ret =>
      intro k2
      refine hJ.move rfl (g' := G { ato (Go.Conc.base k) a' (.code .ret :: k2) with mode := .returning } (cf :: cs)) (fun w => K7 rfl) (leave a' f' A' _ hf' hQ)
    | exit i => exact hQ.elim
    | goto l => exact hQ.elim
    | panic c => exact hQ.elim
    | outgrown => exact hQ.elim
end
section
variable [Comp]
def OpG (P : Program) (ops : Array Oper) (o : Oper) (K : Act → World → Prop) (a : Act) (A : World) : Prop :=
  (Region.wanted o (yielded ops a.tmps) = true ∧
    ((Quiet P (execOp a.eval o) ∧ ∀ A1, Ext A A1 → ∃ x v A1', (execOp a.eval o).run P A1 = .ok x A1' ∧ (x = .value v ∨ (x = .skip ∧ v = undef)) ∧ K (a.put o.dst v) (norm A A1')) ∨
     (∃ R, Special P ops o (execOp a.eval o) A R ∧ ∀ v A', R v A' → K (a.put o.dst v) A'))) ∨
  (Region.wanted o (yielded ops a.tmps) = false ∧ K (a.put o.dst undef) A)
def LstG (P : Program) (ops : Array Oper) (K : Act → World → Prop) : List Oper → Act → World → Prop
  | [], a, A => K a A
  | o :: l, a, A => OpG P ops o (LstG P ops K l) a A
def AnyJ (P : Program) (md : Region.Mode) (ops : Array Oper) (K : Act → World → Prop) : Nat → Array Bool → Act → World → Prop
  | 0, listed, a, A => Region.ready md ops listed = [] ∧ K a A
  | fuel + 1, listed, a, A => (Region.ready md ops listed = [] → K a A) ∧ ∀ i ∈ Region.ready md ops listed, ∃ o, ops[i]? = some o ∧ OpG P ops o (AnyJ P md ops K fuel (listed.setIfInBounds i true)) a A
variable {P : Program}
theorem Rk {n : Nat} {ops : Array Oper} {o : Oper} {next : Fr → World → Prop} {f : Fr} {A : World} {a : Act} (h : OpJ P n ops o next f A) (ha : FEq n a f) : OpG P ops o (fun a' A' => ∃ f', FEq n a' f' ∧ next f' A') a A := h a ha
theorem OpG.mono {ops : Array Oper} {o : Oper} {K K' : Act → World → Prop} {a : Act} {A : World} (h : OpG P ops o K a A) (hk : ∀ a A, K a A → K' a A) : OpG P ops o K' a A := by
  rcases h with ⟨h1, ⟨h2, h3⟩ | ⟨R, h4, h5⟩⟩ | ⟨h1, h3⟩
  · refine Or.inl ⟨h1, Or.inl ⟨h2, fun A1 hE => ?_⟩⟩
    obtain ⟨x, v, A1', h4, h5, h6⟩ := h3 A1 hE
    exact ⟨x, v, A1', h4, h5, hk _ _ h6⟩
  · exact Or.inl ⟨h1, Or.inr ⟨R, h4, fun v A' hR => hk _ _ (h5 v A' hR)⟩⟩
  · exact Or.inr ⟨h1, hk _ _ h3⟩
theorem OpG.ext {ops : Array Oper} {o : Oper} {K : Act → World → Prop} {a : Act} {A A1 : World} (h : OpG P ops o K a A) (he : Ext A A1) (ht : A1.tape = A.tape) (hn : ∀ a B B1, K a B → Ext B B1 → B1.tape = B.tape → K a B1) : OpG P ops o K a A1 := by
  rcases h with ⟨h1, ⟨h2, h3⟩ | ⟨R, h4, h5⟩⟩ | ⟨h1, h3⟩
  · refine Or.inl ⟨h1, Or.inl ⟨h2, fun A2 hE => ?_⟩⟩
    obtain ⟨x, v, A1', h4, h5, h6⟩ := h3 A2 (he.trans hE)
    exact ⟨x, v, A1', h4, h5, hn _ _ _ h6 ⟨0, by simp [Go.Dw.J.norm], rfl, rfl⟩ ht⟩
  · exact Or.inl ⟨h1, Or.inr ⟨R, h4.ext he ht, h5⟩⟩
  · exact Or.inr ⟨h1, hn _ _ _ h3 he ht⟩
theorem AnyJ.ext {md : Region.Mode} {ops : Array Oper} {K : Act → World → Prop} (hK : ∀ a A A1, K a A → Ext A A1 → A1.tape = A.tape → K a A1) : ∀ {fuel : Nat} {listed : Array Bool} {a : Act} {A A1 : World}, AnyJ P md ops K fuel listed a A → Ext A A1 → A1.tape = A.tape → AnyJ P md ops K fuel listed a A1
  | 0, _, _, _, _, h, he, ht => ⟨h.1, hK _ _ _ h.2 he ht⟩
  | fuel + 1, _, _, _, _, h, he, ht => ⟨fun e => hK _ _ _ (h.1 e) he ht, fun i hi => by
    obtain ⟨o, ho, hop⟩ := h.2 i hi
    exact ⟨o, ho, hop.ext he ht fun a B B1 hB hE hT => AnyJ.ext hK hB hE hT⟩⟩
theorem OpG.run {ops : Array Oper} {o : Oper} {K : Act → World → Prop} {a : Act} {A : World} (h : OpG P ops o K a A) {J : Goroutine → World → Prop} (hJ : Closed P J) {b : Frame} (hb : b.kind ≠ .early) {i : Nat} {rest : List Nat} {k : List Item} {cs : List Frame} (ho : ops[i]? = some o)
    (hk : ∀ a' A', K a' A' → J (G (ato b a' (.inRegion ops rest :: k)) cs) A') : J (G (ato b a (.inRegion ops (i :: rest) :: k)) cs) A := by
  rcases h with ⟨h1, ⟨h2, h3⟩ | ⟨R, h4, h5⟩⟩ | ⟨h1, h3⟩
  · refine hJ.value hb ho h1 h2 fun A1 hE => ?_
    obtain ⟨x, v, A1', h4, h5, h6⟩ := h3 A1 hE
    exact ⟨x, v, A1', h4, h5, hk _ _ h6⟩
  · exact h4 J hJ b hb i rest k cs a o ho rfl h1 rfl fun v A' hR => hk _ _ (h5 v A' hR)
  · exact hJ.move rfl (fun w => V3 ho h1) (hk _ _ h3)
theorem Wb {n : Nat} {ops : Array Oper} {Kf : Fr → World → Prop} {K : Act → World → Prop} (hext : ∀ a A A1, K a A → Ext A A1 → A1.tape = A.tape → K a A1) (hK : ∀ a' f' A', FEq n a' f' → Kf f' A' → K a' A') :
    ∀ (l : List Oper) (f : Fr) (A : World) (a : Act), FEq n a f → WpO P n ops Kf l f A → LstG P ops K l a A
  | [], f, A, a, ha, ⟨A0, h1, h2, h3⟩ => hext _ _ _ (hK a f A0 ha h3) h1 h2
  | o :: l, f, A, a, ha, h => (Rk (o := o) h ha).mono fun a' A' ⟨f', hf, hx⟩ => Wb hext hK l f' A' a' hf hx
theorem Mf {md : Region.Mode} {ops : Array Oper} {K : Act → World → Prop} {J : Goroutine → World → Prop} (hJ : Closed P J) {b : Frame} (hb : b.kind ≠ .early) {k : List Item} {cs : List Frame} (hk : ∀ a A, K a A → J (G (ato b a k) cs) A) :
    ∀ (fuel t : Nat) (listed : Array Bool) (a : Act) (A : World), AnyJ P md ops K fuel listed a A → J (G (ato b a (.inRegion ops (Region.linearise.go md ops fuel t listed []) :: k)) cs) A := by
  intro fuel
  induction fuel with
  | zero => intro t listed a A h; simpa [Region.linearise.go] using hJ.move rfl (fun w => stepG_region_end) (hk _ _ h.2)
  | succ fuel ih =>
    intro t listed a A h
    obtain ⟨h₀, h₁⟩ := h
    simp only [Region.linearise.go]
    change J (G (ato b a (.inRegion ops (match (Region.ready md ops listed)[t % (Region.ready md ops listed).length]? with
      | some i => Region.linearise.go md ops fuel (t / (Region.ready md ops listed).length) (listed.setIfInBounds i true) [i]
      | none => [].reverse) :: k)) cs) A
    cases hi : (Region.ready md ops listed)[t % (Region.ready md ops listed).length]? with
    | none =>
      have hnil : Region.ready md ops listed = [] := by
        cases hr : Region.ready md ops listed with
        | nil => rfl
        | cons x xs =>
          rw [hr] at hi
          have hlt : t % (x :: xs).length < (x :: xs).length := Nat.mod_lt _ (by simp)
          simp at hi
          simp at hlt
          omega
      simpa using hJ.move rfl (fun w => stepG_region_end) (hk _ _ (h₀ hnil))
    | some i =>
      simp only []
      rw [linearise_go_acc, List.reverse_singleton, List.singleton_append]
      obtain ⟨o, ho, hop⟩ := h₁ i (List.mem_of_getElem? hi)
      exact hop.run hJ hb ho fun a' A' hx => ih _ _ a' A' hx
variable {n : Nat} {ops : List Oper} {F f : Fr} {Inv : World → Prop}
def YlL (P : Program) (n : Nat) (ops : Array Oper) (Inv : World → Prop) (F : Fr) : List Oper → List (Nat × Value) → Prop
  | [], [] => True
  | o :: l, (d, v) :: r => o.dst = some d ∧ (∀ w, Inv w → WpO P n ops (fun f' w' => f' = up F d v ∧ Inv w') [o] F w) ∧ YlL P n ops Inv F l r
  | _, _ => False
theorem Ja {ops : Array Oper} : YlL P n ops Inv F [] [] := trivial
theorem Qg {ops : Array Oper} {o : Oper} {l : List Oper} {d : Nat} {v : Value} {r : List (Nat × Value)} (hd : o.dst = some d)
    (h : ∀ w, Inv w → WpO P n ops (fun f' w' => f' = up F d v ∧ Inv w') [o] F w) (t : YlL P n ops Inv F l r) : YlL P n ops Inv F (o :: l) ((d, v) :: r) := ⟨hd, h, t⟩
theorem yl {ops : Array Oper} {o : Oper} {l : List Oper} {d : Nat} {v : Value} {r : List (Nat × Value)} (hd : o.dst = some d)
    (h : ∀ w, Inv w → WpO P n ops (fun f' w' => f' = up F d v ∧ Inv w') [] (up F d v) w → WpO P n ops (fun f' w' => f' = up F d v ∧ Inv w') [o] F w) (t : YlL P n ops Inv F l r) : YlL P n ops Inv F (o :: l) ((d, v) :: r) :=
  Qg hd (fun w hi => h w hi (wpo_nil ⟨rfl, hi⟩)) t
theorem loc {i d : Nat} {o : Oper} {v : Value} {w : World} {a aF : Act} {K : Act → World → Prop} (hKe : ∀ a A A1, K a A → Ext A A1 → A1.tape = A.tape → K a A1) (ho : ops[i]? = some o) (hs : notSel o = true) (hd : o.dst = some d) (hdn : d < n) (hF : FEq n aF F)
    (h : WpO P n ops.toArray (fun f' w' => f' = up F d v ∧ Inv w') [o] F w) (hl : ∀ t ∈ looks ops o, a.tmps.getD t undef = F t)
    (hK : ∀ w', Inv w' → K (a.put (some d) v) w') : OpG P ops.toArray o K a w := by
  have h1 := Rk (o := o) h hF
  have hval : ∀ u w', (∃ f', FEq n (aF.put o.dst u) f' ∧ WpO P n ops.toArray (fun f' w' => f' = up F d v ∧ Inv w') [] f' w') → u = v ∧ K (a.put (some d) v) w' := by
    rintro u w' ⟨f', hf, A0, hE, hT, rfl, hi⟩
    rw [hd] at hf
    refine ⟨?_, hKe _ _ _ (hK _ hi) hE hT⟩
    have e1 := hf.at_ d
    rw [Hr, if_pos rfl] at e1
    rw [← e1]
    simp [Act.put, Array.getD, hF.size, hdn]
  have he : execOp a.eval o = execOp aF.eval o := Go.Dw.execOp_congr hs fun x hx => by
    cases x with
    | tmp t =>
      show a.tmps.getD t undef = aF.tmps.getD t undef
      rw [hl t (by simp only [looks]; refine List.mem_append_left _ (List.mem_filterMap.2 ⟨_, by simpa using hx, rfl⟩)), hF.at_ t]
    | _ => rfl
  have hw : Region.wanted o (yielded ops.toArray a.tmps) = Region.wanted o (yielded ops.toArray aF.tmps) := by
    unfold Region.wanted
    cases hg : o.guard with
    | none => rfl
    | some g =>
      obtain ⟨j, b⟩ := g
      simp only
      rw [Wv _ a.tmps aF.tmps j]
      intro oj dj hoj hdj
      rw [hF.at_ dj]
      refine hl dj ?_
      simp only [looks, hg]
      refine List.mem_append_right _ ?_
      have hoj' : ops[j]? = some oj := by simpa using hoj
      simp [hoj', hdj]
  have hput : a.put o.dst v = a.put (some d) v := by rw [hd]
  unfold OpG
  rw [hw, he]
  rcases h1 with ⟨h1, ⟨h2, h3⟩ | ⟨R, h4, h5⟩⟩ | ⟨h1, h3⟩
  · refine Or.inl ⟨h1, Or.inl ⟨h2, fun A1 hE => ?_⟩⟩
    obtain ⟨x, u, A1', h4, h5, h6⟩ := h3 A1 hE
    obtain ⟨rfl, hi⟩ := hval _ _ h6
    exact ⟨x, u, A1', h4, h5, hput ▸ hi⟩
  · refine Or.inl ⟨h1, Or.inr ⟨R, h4, fun u A' hR => ?_⟩⟩
    obtain ⟨rfl, hi⟩ := hval _ _ (h5 u A' hR)
    exact hput ▸ hi
  · obtain ⟨e, hi⟩ := hval _ _ h3
    rw [e]
    exact Or.inr ⟨h1, hput ▸ hi⟩
theorem Jj {md : Region.Mode} {m : Nat} {bs : List (List Nat)} {K : Act → World → Prop} (hmd : md = .any) (hck : ∀ i o, ops[i]? = some o → tailOne m bs i o = true) (hbs : ∀ (listed : Array Bool) (i : Nat) (o : Oper), ops[i]? = some o →
      (∀ e ∈ o.after, Region.binds .any e = true → listed.getD e.on false = true) → (∀ j, listed.getD j false = true → ∀ q ∈ bs.getD j [], listed.getD q false = true) → ∀ q ∈ bs.getD i [], listed.getD q false = true) :
    ∀ (fuel k : Nat) (listed : Array Bool) (a : Act) (w : World), m ≤ k → k ≤ ops.length → listed.size = ops.length → (∀ j, j < k → listed.getD j false = true) → (∀ j, k ≤ j → j < ops.length → listed.getD j false = false) →
      (∀ j, listed.getD j false = true → ∀ q ∈ bs.getD j [], listed.getD q false = true) → ops.length - k ≤ fuel → LstG P ops.toArray K (ops.drop k) a w → AnyJ P md ops.toArray K fuel listed a w := by
  subst hmd
  intro fuel
  induction fuel with
  | zero =>
    intro k listed a w hmk hk hsz h1 h2 hcl hf h
    have hke : k = ops.length := by omega
    subst hke
    refine ⟨?_, by simpa [LstG] using h⟩
    unfold Region.ready
    rw [List.filter_eq_nil_iff]
    intro i hi
    have hi' : i < ops.length := by simpa using hi
    have hl := h1 i hi'
    have : listed.getD i true = true := by
      rw [Array.getD_eq_getD_getElem?] at hl ⊢
      cases hx : listed[i]? with
      | none => rfl
      | some b => rw [hx] at hl; simpa using hl
    simp [this]
  | succ fuel ih =>
    intro k listed a w hmk hk hsz h1 h2 hcl hf h
    have hready : ∀ i, i ∈ Region.ready .any ops.toArray listed → i = k ∧ k < ops.length := by
      intro i hi
      obtain ⟨hun, o, ho, hall⟩ := mem_ready.1 hi
      have ho' : ops[i]? = some o := by simpa using ho
      have hil : i < ops.length := (List.getElem?_eq_some_iff.1 ho').1
      have hun' : listed.getD i false = false := by
        rw [Array.getD_eq_getD_getElem?] at hun ⊢
        cases hx : listed[i]? with
        | none => rfl
        | some b => rw [hx] at hun; simpa using hun
      have hik : k ≤ i := by
        rcases Nat.lt_or_ge i k with h' | h'
        · rw [h1 i h'] at hun'; cases hun'
        · exact h'
      have hpre := hbs listed i o ho' (fun e he hb => hall e he hb) hcl
      have hone := hck i o ho'
      unfold tailOne at hone
      simp only [Bool.and_eq_true] at hone
      have h3 := hone.2
      rw [show decide (i < m) = false by simp; omega, Bool.false_or] at h3
      refine ⟨?_, by omega⟩
      rcases Nat.lt_or_ge k i with h' | h'
      · have := List.all_eq_true.1 h3 k (by simpa using h')
        have hmem : k ∈ bs.getD i [] := by simpa using this
        have := hpre k hmem
        rw [h2 k (Nat.le_refl _) (by omega)] at this
        cases this
      · omega
    rcases Nat.lt_or_ge k ops.length with hkl | hkl
    · obtain ⟨o, ho⟩ : ∃ o, ops[k]? = some o := ⟨_, List.getElem?_eq_getElem hkl⟩
      have hdrop : ops.drop k = o :: ops.drop (k + 1) := by
        rw [List.drop_eq_getElem_cons hkl]
        congr 1
        rw [List.getElem?_eq_getElem hkl] at ho
        exact Option.some.inj ho
      rw [hdrop] at h
      refine ⟨fun hnil => ?_, fun i hi => ?_⟩
      · exfalso
        have hkr : k ∈ Region.ready .any ops.toArray listed := by
          refine mem_ready.2 ⟨?_, o, by simpa using ho, fun e he hb => ?_⟩
          · have := h2 k (Nat.le_refl _) hkl
            rw [Array.getD_eq_getD_getElem?, Array.getElem?_eq_getElem (by omega)] at this ⊢
            simpa using this
          · have hone := hck k o ho
            unfold tailOne at hone
            simp only [Bool.and_eq_true] at hone
            have := List.all_eq_true.1 hone.1.1 e (by simpa using he)
            simp only [hb, Bool.not_true, Bool.false_or, decide_eq_true_eq] at this
            exact h1 _ this
        rw [hnil] at hkr
        cases hkr
      · obtain ⟨rfl, _⟩ := hready i hi
        have ho' : ops.toArray[i]? = some o := by simpa using ho
        have hnext : ∀ a w, LstG P ops.toArray K (ops.drop (i + 1)) a w → AnyJ P .any ops.toArray K fuel (listed.setIfInBounds i true) a w := fun a w hh =>
          ih (i + 1) _ a w (by omega) hkl (by simp [hsz]) (fun j hj => by
            rcases Nat.lt_or_ge j i with h' | h'
            · have := h1 j h'
              rw [Array.getD_eq_getD_getElem?] at this ⊢
              rw [Array.getElem?_setIfInBounds_ne (by omega)]; exact this
            · have : j = i := by omega
              subst this
              rw [Array.getD_eq_getD_getElem?, Array.getElem?_setIfInBounds_self_of_lt (by omega)]; rfl)
            (fun j hj hjl => by
              have := h2 j (by omega) hjl
              rw [Array.getD_eq_getD_getElem?] at this ⊢
              rw [Array.getElem?_setIfInBounds_ne (by omega)]; exact this)
            (fun j hj q hq => by
              have hq' : listed.getD q false = true := by
                rcases Nat.decEq j i with hne | he
                · refine hcl j ?_ q hq
                  rw [Array.getD_eq_getD_getElem?, Array.getElem?_setIfInBounds_ne (fun e => hne e.symm)] at hj
                  rw [Array.getD_eq_getD_getElem?]; exact hj
                · subst he
                  obtain ⟨_, o2, ho2, hall⟩ := mem_ready.1 hi
                  exact hbs listed j o2 (by simpa using ho2) (fun e he hb => hall e he hb) hcl q hq
              rw [Array.getD_eq_getD_getElem?] at hq' ⊢
              by_cases hqi : q = i
              · subst hqi
                rw [Array.getElem?_setIfInBounds_self_of_lt (by omega)]; rfl
              · rw [Array.getElem?_setIfInBounds_ne (fun e => hqi e.symm)]; exact hq')
            (by omega) hh
        exact ⟨o, ho', h.mono hnext⟩
    · have hke : k = ops.length := by omega
      subst hke
      refine ⟨fun _ => by simpa [LstG] using h, fun i hi => ?_⟩
      have := (hready i hi).2
      omega
theorem Vn {opsA : Array Oper} : ∀ (l : List Oper) (r : List (Nat × Value)), YlL P n opsA Inv F l r → l.length = r.length ∧ ∀ (i : Nat) (o : Oper), l[i]? = some o → ∃ (d : Nat) (v : Value), r[i]? = some (d, v) ∧ o.dst = some d ∧ ∀ w, Inv w → WpO P n opsA (fun f' w' => f' = up F d v ∧ Inv w') [o] F w
  | [], [], _ => ⟨rfl, fun i o h => by simp at h⟩
  | [], _ :: _, h => h.elim
  | _ :: _, [], h => h.elim
  | o :: l, (d, v) :: r, ⟨h1, h2, h3⟩ => by
    obtain ⟨hl, hg⟩ := Vn l r h3
    refine ⟨by simp [hl], fun i o' h => ?_⟩
    cases i with
    | zero =>
      simp at h
      subst h
      exact ⟨d, v, rfl, h1, h2⟩
    | succ i => simpa using hg i o' (by simpa using h)
theorem U4 {m : Nat} {bs : List (List Nat)} {vals : List (Nat × Value)} {Kf : Fr → World → Prop} {K : Act → World → Prop} {aF : Act} (hext : ∀ a A A1, K a A → Ext A A1 → A1.tape = A.tape → K a A1) (hck : drawOk n m ops bs = true) (hF : F = ups f vals) (haF : FEq n aF F)
    (hpre : YlL P n ops.toArray Inv F (ops.take m) vals) (htail : ∀ w, Inv w → WpO P n ops.toArray Kf (ops.drop m) F w) (hQ : ∀ a' f' w', FEq n a' f' → Kf f' w' → K a' w') :
    ∀ (fuel : Nat) (listed : Array Bool) (a : Act) (w : World), a.defers = [] → a.tmps.size = n → listed.size = ops.length → Inv w → (∀ j, m ≤ j → listed.getD j false = false) →
      (∀ j, listed.getD j false = true → ∀ q ∈ bs.getD j [], listed.getD q false = true) →
      (∀ t, (∀ j o, j < m → listed.getD j false = true → ops[j]? = some o → o.dst ≠ some t) → a.tmps.getD t undef = f t) →
      (∀ j o t, j < m → listed.getD j false = true → ops[j]? = some o → o.dst = some t → a.tmps.getD t undef = F t) → cnt listed ops.length ≤ fuel → AnyJ P .any ops.toArray K fuel listed a w := by
  obtain ⟨hm, hdist, hone⟩ := Go.Dw.drawOk_spec hck
  obtain ⟨hlen, hget⟩ := Vn _ _ hpre
  have htk : ∀ i o, i < m → ops[i]? = some o → (ops.take m)[i]? = some o := fun i o hi ho => by rw [List.getElem?_take, if_pos hi]; exact ho
  have hFd : ∀ i o d v, i < m → ops[i]? = some o → vals[i]? = some (d, v) → o.dst = some d → F d = v := fun i o d v hi ho hv hd => by
    rw [hF]
    refine Ni vals f i hv fun j p hj e => ?_
    have hjm : j < m := by
      have := (List.getElem?_eq_some_iff.1 hj).1
      rw [← hlen] at this
      simp at this
      omega
    rcases Nat.decEq j i with hne | he
    · exfalso
      obtain ⟨oj, hoj⟩ : ∃ oj, ops[j]? = some oj := ⟨_, List.getElem?_eq_getElem (by omega)⟩
      obtain ⟨d', v', hv', hd', _⟩ := hget j oj (htk j oj hjm hoj)
      rw [hj] at hv'
      have := Option.some.inj hv'
      subst this
      exact hdist j i oj o hjm hi hne hoj ho (by rw [hd', hd, ← e])
    · exact he
  have hFo : ∀ t, (∀ j o, j < m → ops[j]? = some o → o.dst ≠ some t) → F t = f t := fun t ht => by
    rw [hF]
    refine Gx vals f fun p hp e => ?_
    obtain ⟨j, hj⟩ := List.getElem?_of_mem hp
    have hjm : j < m := by
      have := (List.getElem?_eq_some_iff.1 hj).1
      rw [← hlen] at this
      simp at this
      omega
    obtain ⟨oj, hoj⟩ : ∃ oj, ops[j]? = some oj := ⟨_, List.getElem?_eq_getElem (by omega)⟩
    obtain ⟨d', v', hv', hd', _⟩ := hget j oj (htk j oj hjm hoj)
    rw [hj] at hv'
    have := Option.some.inj hv'
    subst this
    exact ht j oj hjm hoj (by rw [hd', ← e])
  intro fuel
  induction fuel with
  | zero =>
    intro listed a w had hsz hls hi hlow hcl hout hin hcnt
    have hz := Vs _ (Nat.le_zero.1 hcnt)
    refine Jj rfl (fun i o ho => Vj (hone i o ho)) (fun l i o ho hall hc => Jb (hone i o ho) l hall hc) 0 m listed a w (Nat.le_refl _) hm hls (fun j hj => hz j (by omega)) (fun j hj _ => hlow j hj) hcl ?_ ?_
    · have := K8 (listed := listed) (m := m) ops.length fun j h1 _ => hlow j h1
      omega
    · refine Wb hext hQ _ _ _ a ⟨had, hsz, fun t => ?_⟩ (htail w hi)
      by_cases hx : ∃ j o, j < m ∧ ops[j]? = some o ∧ o.dst = some t
      · obtain ⟨j, o, hj, ho, hd⟩ := hx
        exact hin j o t hj (hz j (by omega)) ho hd
      · rw [hFo t fun j o hj ho hd => hx ⟨j, o, hj, ho, hd⟩]
        exact hout t fun j o hj _ ho hd => hx ⟨j, o, hj, ho, hd⟩
  | succ fuel ih =>
    intro listed a w had hsz hls hi hlow hcl hout hin hcnt
    by_cases hall : ∀ j, j < m → listed.getD j false = true
    · refine Jj rfl (fun i o ho => Vj (hone i o ho)) (fun l i o ho hall hc => Jb (hone i o ho) l hall hc) (fuel + 1) m listed a w (Nat.le_refl _) hm hls hall (fun j hj _ => hlow j hj) hcl ?_ ?_
      · have := K8 (listed := listed) (m := m) ops.length fun j h1 _ => hlow j h1
        omega
      · refine Wb hext hQ _ _ _ a ⟨had, hsz, fun t => ?_⟩ (htail w hi)
        by_cases hx : ∃ j o, j < m ∧ ops[j]? = some o ∧ o.dst = some t
        · obtain ⟨j, o, hj, ho, hd⟩ := hx
          exact hin j o t hj (hall j hj) ho hd
        · rw [hFo t fun j o hj ho hd => hx ⟨j, o, hj, ho, hd⟩]
          exact hout t fun j o hj _ ho hd => hx ⟨j, o, hj, ho, hd⟩
    · obtain ⟨j0, hj0, hun0, hbelow⟩ := N4 m hall
      refine ⟨fun hnil => ?_, fun i hir => ?_⟩
      · exfalso
        obtain ⟨o, ho⟩ : ∃ o, ops[j0]? = some o := ⟨_, List.getElem?_eq_getElem (by omega)⟩
        have hkr : j0 ∈ Region.ready .any ops.toArray listed := by
          refine mem_ready.2 ⟨?_, o, by simpa using ho, fun e he hb => ?_⟩
          · rw [Array.getD_eq_getD_getElem?, Array.getElem?_eq_getElem (by omega)] at hun0 ⊢
            simpa using hun0
          · have h1 := hone j0 o ho
            unfold drawOne at h1
            simp only [Bool.and_eq_true] at h1
            have := List.all_eq_true.1 h1.1.1 e (by simpa using he)
            simp only [hb, Bool.not_true, Bool.false_or, decide_eq_true_eq] at this
            exact hbelow _ this
        rw [hnil] at hkr
        cases hkr
      · obtain ⟨hun, o, ho, hafter⟩ := mem_ready.1 hir
        have ho' : ops[i]? = some o := by simpa using ho
        have hil : i < ops.length := (List.getElem?_eq_some_iff.1 ho').1
        have hun' : listed.getD i false = false := by
          rw [Array.getD_eq_getD_getElem?, Array.getElem?_eq_getElem (by omega)] at hun ⊢
          simpa using hun
        have hprei := Jb (hone i o ho') listed (fun e he hb => hafter e he hb) hcl
        have h1 := hone i o ho'
        unfold drawOne at h1
        simp only [Bool.and_eq_true] at h1
        obtain ⟨_, h1⟩ := h1
        have him : i < m := by
          rcases Nat.lt_or_ge i m with h' | h'
          · exact h'
          · exfalso
            rw [if_neg (by omega)] at h1
            have := List.all_eq_true.1 h1 j0 (by simp; omega)
            have := hprei j0 (by simpa using this)
            rw [hun0] at this
            cases this
        rw [if_pos him] at h1
        simp only [Bool.and_eq_true] at h1
        obtain ⟨⟨hsel, hdn⟩, hlooks⟩ := h1
        obtain ⟨d, v, hv, hd, hwp⟩ := hget i o (htk i o him ho')
        rw [hd] at hdn
        have hdn' : d < n := by simpa using hdn
        refine ⟨o, ho, loc (fun a A A1 h => AnyJ.ext hext h) ho' hsel hd hdn' haF (hwp w hi) (fun t ht => ?_) fun w' hi' => ?_⟩
        · have h2 := List.all_eq_true.1 hlooks t ht
          by_cases hx : ∃ j oj, j < m ∧ ops[j]? = some oj ∧ oj.dst = some t
          · obtain ⟨j, oj, hj, hoj, hdj⟩ := hx
            have h3 := List.all_eq_true.1 h2 j (by simpa using hj)
            rw [hoj] at h3
            simp [hdj] at h3
            exact hin j oj t hj (hprei j (by simpa using h3)) hoj hdj
          · rw [hFo t fun j o hj ho hd => hx ⟨j, o, hj, ho, hd⟩]
            exact hout t fun j o hj _ ho hd => hx ⟨j, o, hj, ho, hd⟩
        · have hput : ∀ t, t ≠ d → (a.put (some d) v).tmps.getD t undef = a.tmps.getD t undef := fun t ht => by
            simp only [Act.put]
            rw [Array.getD_eq_getD_getElem?, Array.getElem?_setIfInBounds_ne (fun e => ht e.symm), Array.getD_eq_getD_getElem?]
          have hputd : (a.put (some d) v).tmps.getD d undef = v := by
            simp only [Act.put]
            rw [Array.getD_eq_getD_getElem?, Array.getElem?_setIfInBounds_self_of_lt (by omega)]; rfl
          have hFv : F d = v := hFd i o d v him ho' hv hd
          refine ih _ _ w' had (by simp [Act.put, hsz]) (by simp [hls]) hi' (fun j hj => by rw [Yg (by omega)]; exact hlow j hj) (fun j hj q hq => ?_) (fun t ht => ?_) (fun j oj t hj hlj hoj hdj => ?_) ?_
          · have hq' : listed.getD q false = true := by
              rcases Nat.decEq j i with hne | he
              · rw [Yg hne] at hj
                exact hcl j hj q hq
              · subst he
                exact hprei q hq
            by_cases hqi : q = i
            · rw [hqi]; exact Qd (by omega)
            · rw [Yg hqi]; exact hq'
          · have htd : t ≠ d := fun e => ht i o him (Qd (by omega)) ho' (by rw [hd, e])
            rw [hput t htd]
            exact hout t fun j oj hj hlj hoj => ht j oj hj (by
              by_cases hji : j = i
              · rw [hji]; exact Qd (by omega)
              · rw [Yg hji]; exact hlj) hoj
          · rcases Nat.decEq t d with htd | htd
            · rw [hput t htd]
              rcases Nat.decEq j i with hne | he
              · rw [Yg hne] at hlj
                exact hin j oj t hj hlj hoj hdj
              · subst he
                rw [ho'] at hoj
                obtain rfl := Option.some.inj hoj
                rw [hd] at hdj
                exact absurd (Option.some.inj hdj).symm htd
            · subst htd
              rw [hputd, hFv]
          · have := U5 (listed := listed) (i := i) (by omega) hun' ops.length hil
            omega
theorem Closed.draw {J : Goroutine → World → Prop} (hJ : Closed P J) {ops : Array Oper} {b : Frame} (hb : b.kind ≠ .early) {K : Act → World → Prop} {k : List Item} {cs : List Frame} {a : Act} {w : World} {id : Nat} (hmx : P.follows .mixedOrders = true) (hk : ∀ a A, K a A → J (G (ato b a k) cs) A)
    (h : AnyJ P .any ops K ops.size (Array.replicate ops.size false) a w.drew) : J (G (ato b a (.code (.region id ops true) :: k)) cs) w :=
  hJ.step _ _ (.quiet rfl fun w1 hs => ⟨_, w.drew, { w1 with drawn := w1.drawn + 1 }, #[], Wq, rfl, ⟨hs.os, hs.output, hs.size, hs.vis, hs.nv⟩, ⟨fun b _ h => ⟨rfl, h⟩, fun b h => ⟨rfl, rfl⟩, fun b _ h => h, fun b h => h, Nat.le_refl _, rfl, rfl, rfl, fun b _ h => h⟩, by simp, by
    simp only [Region.schedule, hmx, Bool.true_or, if_true]
    exact Mf hJ hb hk _ _ _ _ _ h⟩)
theorem Qx {id : Nat} {w : World} {Q : Exit → Fr → World → Prop} (m : Nat) (vals : List (Nat × Value)) (Inv : World → Prop) (hmx : P.follows .mixedOrders = true) (hck : drawOk n m ops (befores ops) = true) (h0 : Inv w.drew)
    (hpre : YlL P n ops.toArray Inv (ups f vals) (ops.take m) vals) (htail : ∀ w', Inv w' → WpO P n ops.toArray (Q .normal) (ops.drop m) (ups f vals) w') : Wpf P n Q (.region id ops.toArray true) f w := fun J hJ b hb k cs a ha hc => by
  obtain ⟨hm, _, hone⟩ := Go.Dw.drawOk_spec hck
  obtain ⟨hlen, hget⟩ := Vn _ _ hpre
  obtain ⟨aF, haF⟩ := Nh vals a f ha fun p hp => by
    obtain ⟨j, hj⟩ := List.getElem?_of_mem hp
    have hjm : j < m := by
      have := (List.getElem?_eq_some_iff.1 hj).1
      rw [← hlen] at this
      simp at this
      omega
    obtain ⟨oj, hoj⟩ : ∃ oj, ops[j]? = some oj := ⟨_, List.getElem?_eq_getElem (by omega)⟩
    obtain ⟨d, v, hv, hd, _⟩ := hget j oj (by rw [List.getElem?_take, if_pos hjm]; exact hoj)
    rw [hj] at hv
    have := Option.some.inj hv
    subst this
    have h1 := hone j oj hoj
    unfold drawOne at h1
    simp only [Bool.and_eq_true, if_pos hjm, hd] at h1
    simpa using h1.2.1.2
  refine hJ.draw (K := fun a A => J (G (ato b a k) cs) A) hb hmx (fun _ _ h => h) ?_
  have hrep : ∀ j, (Array.replicate ops.toArray.size false).getD j false = false := fun j => by
    rw [Array.getD_eq_getD_getElem?]
    cases h : (Array.replicate ops.toArray.size false)[j]? with
    | none => rfl
    | some b => rw [Array.getElem?_replicate] at h; split at h <;> simp_all
  refine U4 (Kf := Q .normal) (K := fun a A => J (G (ato b a k) cs) A) (fun a A A1 hh hE hT => hJ.ext _ _ _ hE hT hh) hck rfl haF hpre htail (fun a' f' w' hf hK => hc .normal a' f' w' hf hK) _ _ a _ ha.defers ha.size (by simp) h0 (fun j _ => hrep j) (fun j hj => by rw [hrep j] at hj; cases hj) (fun t _ => ha.at_ t) (fun j o t _ hj => by rw [hrep j] at hj; cases hj) ?_
  rw [show ops.toArray.size = ops.length by simp, Vr]
  exact Nat.le_refl _
theorem V6 {m : Nat} {bs : List (List Nat)} {I : (Nat → Bool) → Fr → World → Prop} {Kf : Fr → World → Prop} {K : Act → World → Prop} (hext : ∀ a A A1, K a A → Ext A A1 → A1.tape = A.tape → K a A1) (hm : m ≤ ops.length) (hone : ∀ i o, ops[i]? = some o → tailOne m bs i o = true)
    (hpre : ∀ i o, i < m → ops[i]? = some o → ∀ S F w, S i = false → (∀ j ∈ bs.getD i [], S j = true) → (∀ j, S j = true → ∀ q ∈ bs.getD j [], S q = true) → I S F w →
      WpO P n ops.toArray (fun F' w' => I (fun j => j == i || S j) F' w') [o] F w)
    (htail : ∀ S F w, (∀ j, j < m → S j = true) → I S F w → WpO P n ops.toArray Kf (ops.drop m) F w) (hQ : ∀ a' f' w', FEq n a' f' → Kf f' w' → K a' w') :
    ∀ (fuel : Nat) (listed : Array Bool) (a : Act) (F : Fr) (w : World), FEq n a F → listed.size = ops.length → I (fun j => listed.getD j false) F w → (∀ j, m ≤ j → listed.getD j false = false) →
      (∀ j, listed.getD j false = true → ∀ q ∈ bs.getD j [], listed.getD q false = true) → cnt listed ops.length ≤ fuel → AnyJ P .any ops.toArray K fuel listed a w := by
  intro fuel
  induction fuel with
  | zero =>
    intro listed a F w ha hls hi hlow hcl hcnt
    have hz := Vs _ (Nat.le_zero.1 hcnt)
    refine Jj rfl hone (fun l i o ho hall hc => Go.Dw.tailOne_closed (hone i o ho) l hall hc) 0 m listed a w (Nat.le_refl _) hm hls (fun j hj => hz j (by omega)) (fun j hj _ => hlow j hj) hcl ?_ ?_
    · have := K8 (listed := listed) (m := m) ops.length fun j h1 _ => hlow j h1
      omega
    · exact Wb hext hQ _ _ _ a ha (htail _ F w (fun j hj => hz j (by omega)) hi)
  | succ fuel ih =>
    intro listed a F w ha hls hi hlow hcl hcnt
    by_cases hall : ∀ j, j < m → listed.getD j false = true
    · refine Jj rfl hone (fun l i o ho hall hc => Go.Dw.tailOne_closed (hone i o ho) l hall hc) (fuel + 1) m listed a w (Nat.le_refl _) hm hls hall (fun j hj _ => hlow j hj) hcl ?_ ?_
      · have := K8 (listed := listed) (m := m) ops.length fun j h1 _ => hlow j h1
        omega
      · exact Wb hext hQ _ _ _ a ha (htail _ F w hall hi)
    · obtain ⟨j0, hj0, hun0, hbelow⟩ := N4 m hall
      refine ⟨fun hnil => ?_, fun i hir => ?_⟩
      · exfalso
        obtain ⟨o, ho⟩ : ∃ o, ops[j0]? = some o := ⟨_, List.getElem?_eq_getElem (by omega)⟩
        have hkr : j0 ∈ Region.ready .any ops.toArray listed := by
          refine mem_ready.2 ⟨?_, o, by simpa using ho, fun e he hb => ?_⟩
          · rw [Array.getD_eq_getD_getElem?, Array.getElem?_eq_getElem (by omega)] at hun0 ⊢
            simpa using hun0
          · have h1 := hone j0 o ho
            unfold tailOne at h1
            simp only [Bool.and_eq_true] at h1
            have := List.all_eq_true.1 h1.1.1 e (by simpa using he)
            simp only [hb, Bool.not_true, Bool.false_or, decide_eq_true_eq] at this
            exact hbelow _ this
        rw [hnil] at hkr
        cases hkr
      · obtain ⟨hun, o, ho, hafter⟩ := mem_ready.1 hir
        have ho' : ops[i]? = some o := by simpa using ho
        have hil : i < ops.length := (List.getElem?_eq_some_iff.1 ho').1
        have hun' : listed.getD i false = false := by
          rw [Array.getD_eq_getD_getElem?, Array.getElem?_eq_getElem (by omega)] at hun ⊢
          simpa using hun
        have hprei := Go.Dw.tailOne_closed (hone i o ho') listed (fun e he hb => hafter e he hb) hcl
        have him : i < m := by
          rcases Nat.lt_or_ge i m with h' | h'
          · exact h'
          · exfalso
            have h1 := hone i o ho'
            unfold tailOne at h1
            simp only [Bool.and_eq_true] at h1
            have h3 := h1.2
            rw [show decide (i < m) = false by simp; omega, Bool.false_or] at h3
            have := List.all_eq_true.1 h3 j0 (by simp; omega)
            have := hprei j0 (by simpa using this)
            rw [hun0] at this
            cases this
        refine ⟨o, ho, (Rk (o := o) (hpre i o him ho' _ F w hun' hprei hcl hi) ha).mono fun a' w' ⟨f', hf, A0, hE, hT, hI'⟩ => ?_⟩
        refine AnyJ.ext hext (A := A0) ?_ hE hT
        refine ih _ _ f' A0 hf (by simp [hls]) ?_ (fun j hj => by rw [Yg (by omega)]; exact hlow j hj) (fun j hj q hq => ?_) ?_
        · rw [Nu (by omega)]; exact hI'
        · have hq' : listed.getD q false = true := by
            rcases Nat.decEq j i with hne | he
            · rw [Yg hne] at hj
              exact hcl j hj q hq
            · subst he
              exact hprei q hq
          by_cases hqi : q = i
          · rw [hqi]; exact Qd (by omega)
          · rw [Yg hqi]; exact hq'
        · have := U5 (listed := listed) (i := i) (by omega) hun' ops.length hil
          omega
def PreL (P : Program) (n : Nat) (ops : Array Oper) (bs : List (List Nat)) (I : (Nat → Bool) → Fr → World → Prop) : Nat → List Oper → Prop
  | _, [] => True
  | i, o :: l => (∀ S F w, S i = false → (∀ j ∈ bs.getD i [], S j = true) → (∀ j, S j = true → ∀ q ∈ bs.getD j [], S q = true) → I S F w → WpO P n ops (fun F' w' => I (fun j => j == i || S j) F' w') [o] F w) ∧ PreL P n ops bs I (i + 1) l
theorem Ka {ops : Array Oper} {bs : List (List Nat)} {I : (Nat → Bool) → Fr → World → Prop} {i : Nat} : PreL P n ops bs I i [] := trivial
theorem Xp {ops : Array Oper} {bs : List (List Nat)} {I : (Nat → Bool) → Fr → World → Prop} {i : Nat} {o : Oper} {l : List Oper}
    (h : ∀ S F w, S i = false → (∀ j ∈ bs.getD i [], S j = true) → (∀ j, S j = true → ∀ q ∈ bs.getD j [], S q = true) → I S F w → WpO P n ops (fun F' w' => I (fun j => j == i || S j) F' w') [o] F w)
    (t : PreL P n ops bs I (i + 1) l) : PreL P n ops bs I i (o :: l) := ⟨h, t⟩
theorem Vx {opsA : Array Oper} {bs : List (List Nat)} {I : (Nat → Bool) → Fr → World → Prop} : ∀ (l : List Oper) (k i : Nat) (o : Oper), PreL P n opsA bs I k l → l[i]? = some o →
    ∀ S F w, S (k + i) = false → (∀ j ∈ bs.getD (k + i) [], S j = true) → (∀ j, S j = true → ∀ q ∈ bs.getD j [], S q = true) → I S F w → WpO P n opsA (fun F' w' => I (fun j => j == k + i || S j) F' w') [o] F w
  | [], _, _, _, _, ho => by simp at ho
  | p :: l, k, 0, o, h, ho => by
    obtain rfl : p = o := by simpa using ho
    exact h.1
  | p :: l, k, i + 1, o, h, ho => by
    have := Vx l (k + 1) i o h.2 (by simpa using ho)
    rwa [show k + 1 + i = k + (i + 1) by omega] at this
theorem J1 {id : Nat} {w : World} {Q : Exit → Fr → World → Prop} (m : Nat) (bs : List (List Nat)) (I : (Nat → Bool) → Fr → World → Prop) (hmx : P.follows .mixedOrders = true) (hck : drawOkI m ops bs = true) (h0 : I (fun _ => false) f w.drew)
    (hpre : PreL P n ops.toArray bs I 0 (ops.take m)) (htail : ∀ S F w, (∀ j, j < m → S j = true) → I S F w → WpO P n ops.toArray (Q .normal) (ops.drop m) F w) : Wpf P n Q (.region id ops.toArray true) f w := fun J hJ b hb k cs a ha hc => by
  unfold drawOkI at hck
  simp only [Bool.and_eq_true, decide_eq_true_eq] at hck
  obtain ⟨hm, hck⟩ := hck
  have hone : ∀ i o, ops[i]? = some o → tailOne m bs i o = true := fun i o ho => by
    have := List.all_eq_true.1 hck i (by simpa using (List.getElem?_eq_some_iff.1 ho).1)
    rw [ho] at this
    exact this
  refine hJ.draw (K := fun a A => J (G (ato b a k) cs) A) hb hmx (fun _ _ h => h) ?_
  have hrep : ∀ j, (Array.replicate ops.toArray.size false).getD j false = false := fun j => by
    rw [Array.getD_eq_getD_getElem?]
    cases h : (Array.replicate ops.toArray.size false)[j]? with
    | none => rfl
    | some b => rw [Array.getElem?_replicate] at h; split at h <;> simp_all
  refine V6 (Kf := Q .normal) (K := fun a A => J (G (ato b a k) cs) A) (fun a A A1 hh hE hT => hJ.ext _ _ _ hE hT hh) hm hone (fun i o hi ho S F w h1 h2 h3 h4 => ?_) htail (fun a' f' w' hf hK => hc .normal a' f' w' hf hK) _ _ a f _ ha (by simp) (by simp only [hrep]; exact h0) (fun j _ => hrep j) (fun j hj => by rw [hrep j] at hj; cases hj) ?_
  · have := Vx _ 0 i o hpre (by rw [List.getElem?_take, if_pos hi]; exact ho) S F w (by simpa using h1) (by simpa using h2) h3 h4
    simpa using this
  · rw [show ops.toArray.size = ops.length by simp, Vr]
    exact Nat.le_refl _
end
end Go.Dw.J
end
section
namespace Go.Dw.J
open Go.RowKit Go.Dw Go.Proofs
set_option linter.unusedSectionVars false
set_option maxRecDepth 100000
set_option maxHeartbeats 4000000
set_option linter.unusedSimpArgs false
set_option linter.unusedVariables false
theorem Va : fieldOff Try.prog 25 0 = some 0 := by kernel_rfl
theorem Ub : fieldOff Try.prog 25 1 = some 1 := by kernel_rfl
theorem Qu : fieldOff Try.prog 74 0 = some 0 := by kernel_rfl
theorem J2 : fieldOff Try.prog 74 1 = some 1 := by kernel_rfl
theorem Lu : fieldOff Try.prog 74 3 = some 3 := by kernel_rfl
theorem U8 : fieldOff Try.prog 74 4 = some 4 := by kernel_rfl
theorem Mv : goFn Try.prog 38 = true := by kernel_rfl
theorem D2 : goFn Try.prog 48 = true := by kernel_rfl
theorem D3 : goFn Try.prog 49 = true := by kernel_rfl
theorem X0 : oneTy Try.prog 3 = true := by kernel_rfl
theorem Vp : oneTy Try.prog 4 = true := by kernel_rfl
theorem Yu : rowTy Try.prog 25 = some 2 := by kernel_rfl
theorem Yy : rowTy Try.prog 74 = some 5 := by kernel_rfl
theorem Q4 : Try.prog.follows .mixedOrders = true := by kernel_rfl
theorem Mn (x y : Operand) (a b : Rt) (w : World) : (eqGuard .eql 74 x y (.agg a.cells.toArray) (.agg b.cells.toArray)).run Try.prog w = .ok () w := by kernel_rfl
theorem P9 (a b : Rt) (w : World) : (binOp .eql 74 (.agg a.cells.toArray) (.agg b.cells.toArray)).run Try.prog w = .ok (vb (decide (a = b))) w := by
 have h := run_equalIn_struct (P := Try.prog) w 9999 74 a.cells.toArray b.cells.toArray (by kernel_rfl) (by kernel_rfl)
 obtain ⟨a0, a1, a2, a3, a4⟩ := a
 obtain ⟨b0, b1, b2, b3, b4⟩ := b
 simp only [binOp, Op.equal, Op.maxDepth, Sem.run_bind, Rt.cells] at h ⊢
 rw [h]
 simp [go_sem]
 (repeat' split) <;> simp_all
theorem Er (x y : Operand) (a b : Rt) (w : World) : (eqGuard .neq 74 x y (.agg a.cells.toArray) (.agg b.cells.toArray)).run Try.prog w = .ok () w := by kernel_rfl
theorem Et (a b : Rt) (w : World) : (binOp .neq 74 (.agg a.cells.toArray) (.agg b.cells.toArray)).run Try.prog w = .ok (vb (!decide (a = b))) w := by
 have h := P9 a b w
 have h2 := run_equalIn_struct (P := Try.prog) w 9999 74 a.cells.toArray b.cells.toArray (by kernel_rfl) (by kernel_rfl)
 obtain ⟨a0, a1, a2, a3, a4⟩ := a
 obtain ⟨b0, b1, b2, b3, b4⟩ := b
 simp only [binOp, Op.equal, Op.maxDepth, Sem.run_bind, Rt.cells] at h h2 ⊢
 rw [h2] at h ⊢
 revert h
 simp [go_sem]
 (repeat' split) <;> simp_all
theorem Ei (a b : Lab) (w : World) : (binOp .eql 25 (.agg a.cells.toArray) (.agg b.cells.toArray)).run Try.prog w = .ok (vb (decide (a = b))) w := by
 have h := run_equalIn_struct (P := Try.prog) w 9999 25 a.cells.toArray b.cells.toArray (by kernel_rfl) (by kernel_rfl)
 obtain ⟨a0, a1⟩ := a
 obtain ⟨b0, b1⟩ := b
 simp only [binOp, Op.equal, Op.maxDepth, Sem.run_bind, Lab.cells] at h ⊢
 rw [h]
 simp [go_sem]
 (repeat' split) <;> simp_all
theorem Ep (x y : Operand) (a b : Lab) (w : World) : (eqGuard .neq 25 x y (.agg a.cells.toArray) (.agg b.cells.toArray)).run Try.prog w = .ok () w := by kernel_rfl
theorem Es (a b : Lab) (w : World) : (binOp .neq 25 (.agg a.cells.toArray) (.agg b.cells.toArray)).run Try.prog w = .ok (vb (!decide (a = b))) w := by
 have h := Ei a b w
 have h2 := run_equalIn_struct (P := Try.prog) w 9999 25 a.cells.toArray b.cells.toArray (by kernel_rfl) (by kernel_rfl)
 obtain ⟨a0, a1⟩ := a
 obtain ⟨b0, b1⟩ := b
 simp only [binOp, Op.equal, Op.maxDepth, Sem.run_bind, Lab.cells] at h h2 ⊢
 rw [h2] at h ⊢
 revert h
 simp [go_sem]
 (repeat' split) <;> simp_all
theorem V8 [Comp] (l : Lab) (w : World) : CallsR Try.prog 38 #[.agg #[vi l.s, vi l.v]] w (fun v w' => v = vb (labelOk l) ∧ w.grownBy w' none) := by
 refine Xq (n := 21) Try.func38 Z Try.ntmps38 Z ?_
 have ae := World.grownBy.refl w none
 refine Xa (wpo_box (v := .agg #[vi l.s, vi l.v]) (cs := #[vi l.s, vi l.v]) Z Z Z ?_)
 intro ah af ab
 have ag := Xy ab ae
 refine wpo_assign (v := vb false) Z Z (wpo_nil (Xt (fun f' w' => (f' 2 = vb ((((decide (0 ≤ l.s)) && (decide (l.s ≤ 3))) && (decide (0 ≤ l.v))) && (decide (l.v ≤ 3)))) ∧ af = w') ?_ ?_))
 refine wpo_fieldAddr (o' := 0) Va Z Z Z (wpo_load1 (v := vi l.s) X0 Z (ab.blk.cell Z) Z (wpo_geq (q := decide (0 ≤ l.s)) Z Z Z Z (wpo_move (v := vb (decide (0 ≤ l.s))) Z Z ?_)))
 rcases X1 (decide (0 ≤ l.s)) with E | E
 have aj := of_decide_eq_true E
 refine Xc Z Z Z E (wpo_fieldAddr (o' := 0) Va Z Z Z (Xc Z Z Z E (wpo_load1 (v := vi l.s) X0 Z (ab.blk.cell Z) Z (Xc Z Z Z E (wpo_leq (q := decide (l.s ≤ 3)) Z Z Z Z (wpo_pickt (v := vb (decide (l.s ≤ 3))) Z E Z Z (wpo_move (v := vb (decide (l.s ≤ 3))) Z Z ?_)))))))
 rcases X1 (decide (l.s ≤ 3)) with O | O
 have ak := of_decide_eq_true O
 refine Xc Z Z Z O (wpo_fieldAddr (o' := 1) Ub Z Z Z (Xc Z Z Z O (wpo_load1 (v := vi l.v) X0 Z (ab.blk.cell Z) Z (Xc Z Z Z O (wpo_geq (q := decide (0 ≤ l.v)) Z Z Z Z (wpo_pickt (v := vb (decide (0 ≤ l.v))) Z O Z Z (wpo_move (v := vb (decide (0 ≤ l.v))) Z Z ?_)))))))
 rcases X1 (decide (0 ≤ l.v)) with V | V
 have al := of_decide_eq_true V
 exact Xc Z Z Z V (wpo_fieldAddr (o' := 1) Ub Z Z Z (Xc Z Z Z V (wpo_load1 (v := vi l.v) X0 Z (ab.blk.cell Z) Z (Xc Z Z Z V (wpo_leq (q := decide (l.v ≤ 3)) Z Z Z Z (wpo_pickt (v := vb (decide (l.v ≤ 3))) Z V Z Z (wpo_assign (v := vb (decide (l.v ≤ 3))) Z Z (wpo_nil ⟨(cB (by simp [E, O, V])), Z⟩))))))))
 have am := of_decide_eq_false V
 iterate 3 refine Xd rfl rfl rfl V rfl ?_
 exact wpo_pickf (v := vb false) Z V Z Z (wpo_assign (v := vb false) Z Z (wpo_nil ⟨(cB (by simp [E, O, V])), Z⟩))
 have an := of_decide_eq_false O
 iterate 3 refine Xd rfl rfl rfl O rfl ?_
 refine wpo_pickf (v := vb false) Z O Z Z (wpo_move (v := vb false) Z Z ?_)
 iterate 3 refine Xd rfl rfl rfl rfl rfl ?_
 exact wpo_pickf (v := vb false) Z Z Z Z (wpo_assign (v := vb false) Z Z (wpo_nil ⟨(cB (by simp [E, O])), Z⟩))
 have ao := of_decide_eq_false E
 iterate 3 refine Xd rfl rfl rfl E rfl ?_
 refine wpo_pickf (v := vb false) Z E Z Z (wpo_move (v := vb false) Z Z ?_)
 iterate 3 refine Xd rfl rfl rfl rfl rfl ?_
 refine wpo_pickf (v := vb false) Z Z Z Z (wpo_move (v := vb false) Z Z ?_)
 iterate 3 refine Xd rfl rfl rfl rfl rfl ?_
 exact wpo_pickf (v := vb false) Z Z Z Z (wpo_assign (v := vb false) Z Z (wpo_nil ⟨(cB (by simp [E])), Z⟩))
 rintro ai ap ⟨ac, rfl⟩
 refine Xk (⟨vb ((((decide (0 ≤ l.s)) && (decide (l.s ≤ 3))) && (decide (0 ≤ l.v))) && (decide (l.v ≤ 3))), res1 Z ac, ?_, (low0 ae ab.grw)⟩)
 simp [labelOk, inR, Bool.and_assoc]
theorem Gh [Comp] (l : Lab) (hl : labelOk l = true) (w : World) : CallsR Try.prog 48 #[.agg #[vi l.s, vi l.v]] w (fun v w' => v = .tuple #[.int .u64 l.s, .int .u64 l.v] ∧ w.grownBy w' none) := by
 refine Xq (n := 10) Try.func48 Z Try.ntmps48 Z ?_
 have ae := World.grownBy.refl w none
 obtain ⟨⟨hl1, hl2⟩, hl3, ai⟩ := (J9 l).1 hl
 refine Xa (wpo_box (v := .agg #[vi l.s, vi l.v]) (cs := #[vi l.s, vi l.v]) Z Z Z ?_)
 intro O af E
 have ag := Xy E ae
 refine wpo_assign (v := .int .u64 0) Z Z (wpo_assign (v := .int .u64 0) Z Z (wpo_nil (Xi (Qx (m := 7) (vals := [(4, pt O 0), (5, vi l.s), (6, .int .u64 l.s), (7, pt O 1), (8, vi l.v), (9, .int .u64 l.v), (2, .int .u64 l.s)]) (fun w' => af.grownBy w' none) Q4 (by kernel_rfl) (X5 _) ?_ ?_))))
 exact yl Z (fun _ _ k => wpo_fieldAddr (o' := 0) Va Z Z Z k) (yl Z (fun _ V k => wpo_load1 (v := vi l.s) X0 Z ((E.blk.grown0 V).cell Z) Z k) (yl Z (fun _ _ k => wpo_conv (P := Try.prog) (k' := .u64) Z (by kernel_rfl) (by kernel_rfl) (Nr (by omega) (by omega)) Z k) (yl Z (fun _ _ k => wpo_fieldAddr (o' := 1) Ub Z Z Z k) (yl Z (fun _ ab k => wpo_load1 (v := vi l.v) X0 Z ((E.blk.grown0 ab).cell Z) Z k) (yl Z (fun _ _ k => wpo_conv (P := Try.prog) (k' := .u64) Z (by kernel_rfl) (by kernel_rfl) (Nr (by omega) (by omega)) Z k) (yl Z (fun _ _ k => wpo_assign (v := .int .u64 l.s) Z Z k) Ja))))))
 intro ah ac
 refine wpo_assign (v := .int .u64 l.v) Z Z (wpo_nil (Xr (Xk (⟨.tuple #[.int .u64 l.s, .int .u64 l.v], res2 Z Z Z, ?_, (low0 (low0 ae E.grw) ac)⟩))))
 rfl
theorem Py [Comp] (a b : Int) (w : World) : CallsR Try.prog 49 #[.int .u64 a, .int .u64 b] w (fun v w' => v = vb (decide (bits .andNot .u64 a b = 0)) ∧ w.grownBy w' none) := by
 refine Xq (n := 9) Try.func49 Z Try.ntmps49 Z (Xa (wpo_assign (v := vb false) Z Z (wpo_nil (Xa (wpo_move (v := .int .u64 a) Z Z (wpo_move (v := .int .u64 b) Z Z (wpo_bin (u := .int .u64 a) (u' := .int .u64 b) (v := .int .u64 (bits .andNot .u64 a b)) Z Z Z Z (fun _ => by rw [binOp_andNot, intBits_andNot]; Z) (fun _ _ => eqGuard_at_int ..) Z (wpo_eql (q := decide (bits .andNot .u64 a b = 0)) Z Z Z Z (wpo_assign (v := vb (decide (bits .andNot .u64 a b = 0))) Z Z (wpo_nil (Xk (⟨vb (decide (bits .andNot .u64 a b = 0)), res1 Z Z, ?_, (World.grownBy.refl w none)⟩))))))))))))
 rfl
theorem Jw [Comp] (a b : Lab) (w : World) : CallsR Try.prog 18 #[.agg #[vi a.s, vi a.v], .agg #[vi b.s, vi b.v]] w (fun v w' => v = vb (labelFlow a b) ∧ w.grownBy w' none) := by
 refine Xq (n := 35) Try.func18 Z Try.ntmps18 Z ?_
 have bd := World.grownBy.refl w none
 refine Xa (wpo_box (v := .agg #[vi a.s, vi a.v]) (cs := #[vi a.s, vi a.v]) Z Z Z ?_)
 intro au bn ab
 have bg := Xy ab bd
 have ak := low0 bd ab.grw
 refine wpo_box (v := .agg #[vi b.s, vi b.v]) (cs := #[vi b.s, vi b.v]) Z Z Z ?_
 intro av be V
 have bh := Xy V ak
 have ao := Xn V (ab.blk).lt
 refine wpo_assign (v := vb false) Z Z (wpo_nil (Xi (Xt (fun f' w' => (f' 2 = pt au 0 ∧ f' 3 = pt av 0 ∧ f' 4 = vb false ∧ f' 16 = vb ((!labelOk a) || (!labelOk b))) ∧ be.grownBy w' none) ?_ ?_)))
 refine wpo_loadn (vs := [vi a.s, vi a.v]) Yu Z Z ((ab.blk.grown0 V.grw).rangeL 0 2 Z) Z (Xg Mv (Xb Z Xf) Z (V8 a _) ?_)
 rintro _ bp ⟨rfl, ae⟩
 refine wpo_not (b' := !labelOk a) Z Z Z (wpo_move (v := vb (!labelOk a)) Z Z ?_)
 rcases X1 (!labelOk a) with E | E
 have ba := Jd E
 iterate 3 refine Xd rfl rfl rfl E rfl ?_
 exact wpo_pickt (v := vb true) Z E Z Z (wpo_nil ⟨⟨Z, Z, Z, (cB (by simp [E, ba]))⟩, ae⟩)
 have bc := Qn E
 refine Xc Z Z Z E (wpo_loadn (vs := [vi b.s, vi b.v]) Yu Z Z ((V.blk.grown0 ae).rangeL 0 2 Z) Z (Xc Z Z Z E (Xg Mv (Xb Z Xf) Z (V8 b _) ?_)))
 rintro _ bq ⟨rfl, ap⟩
 exact Xc Z Z Z E (wpo_not (b' := !labelOk b) Z Z Z (wpo_pickf (v := vb (!labelOk b)) Z E Z Z (wpo_nil ⟨⟨Z, Z, Z, (cB (by simp [E, bc]))⟩, (Xe ae ap)⟩)))
 rintro bj br ⟨⟨aw, az, bi, a8⟩, af⟩
 have al := low0 (low0 ak V.grw) af
 refine Xs a8 (fun ac => ?_) (fun ac => ?_)
 refine Xa (wpo_assign (v := vb false) Z Z (wpo_nil (Xk (X9 (⟨vb false, res1 Z Z, ?_, al⟩)))))
 exact cB (Lx ac).symm
 have ai := J6 ac
 have ag := Qn ai
 have aj := J7 ac
 have ah := Qn aj
 refine Xl (Xr (Xa (wpo_loadn (vs := [vi a.s, vi a.v]) Yu aw Z (((ab.blk.grown0 V.grw).grown0 af).rangeL 0 2 Z) Z (Xg D2 (Xb Z Xf) Z (Gh a ag _) ?_))))
 rintro _ bt ⟨rfl, am⟩
 refine wpo_move (v := .tuple #[.int .u64 a.s, .int .u64 a.v]) Z Z (wpo_extract (v := .int .u64 a.s) Z Z Z (wpo_extract (v := .int .u64 a.v) Z Z Z (wpo_assign (v := .int .u64 a.s) Z Z (wpo_assign (v := .int .u64 a.v) Z Z (wpo_nil (Xa (wpo_loadn (vs := [vi b.s, vi b.v]) Yu az Z (((V.blk.grown0 af).grown0 am).rangeL 0 2 Z) Z (Xg D2 (Xb Z Xf) Z (Gh b ah _) ?_))))))))
 rintro _ bf ⟨rfl, aq⟩
 refine wpo_move (v := .tuple #[.int .u64 b.s, .int .u64 b.v]) Z Z (wpo_extract (v := .int .u64 b.s) Z Z Z (wpo_extract (v := .int .u64 b.v) Z Z Z (wpo_assign (v := .int .u64 b.s) Z Z (wpo_assign (v := .int .u64 b.v) Z Z (wpo_nil (Xt (fun f' w' => (f' 4 = vb ((decide (bits .andNot .u64 a.s b.s = 0)) && (decide (bits .andNot .u64 b.v a.v = 0)))) ∧ bf.grownBy w' none) ?_ ?_))))))
 refine wpo_move (v := .int .u64 a.s) Z Z (wpo_move (v := .int .u64 b.s) Z Z (Xg D3 (Xb Z (Xb Z Xf)) Z (Py a.s b.s _) ?_))
 rintro _ bu ⟨rfl, an⟩
 refine wpo_move (v := vb (decide (bits .andNot .u64 a.s b.s = 0))) Z Z ?_
 rcases X1 (decide (bits .andNot .u64 a.s b.s = 0)) with O | O
 have bl := of_decide_eq_true O
 refine Xc Z Z Z O (wpo_move (v := .int .u64 b.v) Z Z (Xc Z Z Z O (wpo_move (v := .int .u64 a.v) Z Z (Xc Z Z Z O (Xg D3 (Xb Z (Xb Z Xf)) Z (Py b.v a.v _) ?_)))))
 rintro _ bv ⟨rfl, ar⟩
 exact wpo_pickt (v := vb (decide (bits .andNot .u64 b.v a.v = 0))) Z O Z Z (wpo_assign (v := vb (decide (bits .andNot .u64 b.v a.v = 0))) Z Z (wpo_nil ⟨(cB (by simp [ac, ai, ag, aj, ah, O])), (Xe an ar)⟩))
 have bm := of_decide_eq_false O
 iterate 3 refine Xd rfl rfl rfl O rfl ?_
 exact wpo_pickf (v := vb false) Z O Z Z (wpo_assign (v := vb false) Z Z (wpo_nil ⟨(cB (by simp [ac, ai, ag, aj, ah, O])), an⟩))
 rintro bk bw ⟨a9, as⟩
 refine Xk (⟨vb ((decide (bits .andNot .u64 a.s b.s = 0)) && (decide (bits .andNot .u64 b.v a.v = 0))), res1 Z a9, ?_, (low0 (low0 (low0 al am) aq) as)⟩)
 exact cB (Hx ag ah)
theorem Sr [Comp] (r : Rt) (w : World) : CallsR Try.prog 97 #[.agg #[vi r.th, vi r.ve, vb r.rd, vb r.wr, vb r.wk]] w (fun v w' => v = vb (rightOk r) ∧ w.grownBy w' none) := by
 refine Xq (n := 33) Try.func97 Z Try.ntmps97 Z ?_
 have ai := World.grownBy.refl w none
 refine Xa (wpo_box (v := .agg #[vi r.th, vi r.ve, vb r.rd, vb r.wr, vb r.wk]) (cs := #[vi r.th, vi r.ve, vb r.rd, vb r.wr, vb r.wk]) Z Z Z ?_)
 intro al aj ac
 have ak := Xy ac ai
 have ag := low0 ai ac.grw
 refine wpo_assign (v := vb false) Z Z (wpo_nil (Xi (Xa (wpo_loadn (vs := [vi r.th, vi r.ve, vb r.rd, vb r.wr, vb r.wk]) Yy Z Z (ac.blk.rangeL 0 5 Z) Z (wpo_build (ps := []) (v := .agg #[vi 0, vi 0, vb false, vb false, vb false]) Xv (fun _ => by kernel_rfl) Z (wpo_eqs (q := decide (r = Rt.zero)) Z Z Z Z (fun _ => Mn _ _ r Rt.zero _) (fun _ => P9 r Rt.zero _) Z Z (wpo_nil (Xs Z (fun ae => ?_) (fun ae => ?_)))))))))
 have an := of_decide_eq_true ae
 refine Xa (wpo_assign (v := vb true) Z Z (wpo_nil (Xk (X9 (⟨vb true, res1 Z Z, ?_, ag⟩)))))
 simp [rightOk, inR, Bool.and_assoc, ae]
 have ao := of_decide_eq_false ae
 refine Xl (Xr (Xt (fun f' w' => (f' 2 = vb (((((decide (1 ≤ r.th)) && (decide (r.th ≤ 8))) && (decide (0 ≤ r.ve))) && (decide (r.ve ≤ 5))) && (!(r.wk && r.wr)))) ∧ aj = w') ?_ ?_))
 refine wpo_fieldAddr (o' := 0) Qu Z Z Z (wpo_load1 (v := vi r.th) X0 Z (ac.blk.cell Z) Z (wpo_geq (q := decide (1 ≤ r.th)) Z Z Z Z (wpo_move (v := vb (decide (1 ≤ r.th))) Z Z ?_)))
 rcases X1 (decide (1 ≤ r.th)) with O | O
 have ap := of_decide_eq_true O
 refine Xc Z Z Z O (wpo_fieldAddr (o' := 0) Qu Z Z Z (Xc Z Z Z O (wpo_load1 (v := vi r.th) X0 Z (ac.blk.cell Z) Z (Xc Z Z Z O (wpo_leq (q := decide (r.th ≤ 8)) Z Z Z Z (wpo_pickt (v := vb (decide (r.th ≤ 8))) Z O Z Z (wpo_move (v := vb (decide (r.th ≤ 8))) Z Z ?_)))))))
 rcases X1 (decide (r.th ≤ 8)) with V | V
 have aq := of_decide_eq_true V
 refine Xc Z Z Z V (wpo_fieldAddr (o' := 1) J2 Z Z Z (Xc Z Z Z V (wpo_load1 (v := vi r.ve) X0 Z (ac.blk.cell Z) Z (Xc Z Z Z V (wpo_geq (q := decide (0 ≤ r.ve)) Z Z Z Z (wpo_pickt (v := vb (decide (0 ≤ r.ve))) Z V Z Z (wpo_move (v := vb (decide (0 ≤ r.ve))) Z Z ?_)))))))
 rcases X1 (decide (0 ≤ r.ve)) with ab | ab
 have ar := of_decide_eq_true ab
 refine Xc Z Z Z ab (wpo_fieldAddr (o' := 1) J2 Z Z Z (Xc Z Z Z ab (wpo_load1 (v := vi r.ve) X0 Z (ac.blk.cell Z) Z (Xc Z Z Z ab (wpo_leq (q := decide (r.ve ≤ 5)) Z Z Z Z (wpo_pickt (v := vb (decide (r.ve ≤ 5))) Z ab Z Z (wpo_move (v := vb (decide (r.ve ≤ 5))) Z Z ?_)))))))
 rcases X1 (decide (r.ve ≤ 5)) with E | E
 have as := of_decide_eq_true E
 refine Xc Z Z Z E (wpo_fieldAddr (o' := 4) U8 Z Z Z (Xc Z Z Z E (wpo_load1 (v := vb r.wk) Vp Z (ac.blk.cell Z) Z (Xc Z Z Z E (wpo_move (v := vb r.wk) Z Z ?_)))))
 rcases X1 (r.wk) with af | af
 exact Xc Z Z Z af (wpo_fieldAddr (o' := 3) Lu Z Z Z (Xc Z Z Z af (wpo_load1 (v := vb r.wr) Vp Z (ac.blk.cell Z) Z (Xc Z Z Z E (wpo_pickt (v := vb r.wr) Z af Z Z (Xc Z Z Z E (wpo_not (b' := !r.wr) Z Z Z (wpo_pickt (v := vb (!r.wr)) Z E Z Z (wpo_assign (v := vb (!r.wr)) Z Z (wpo_nil ⟨(cB (by simp [ae, O, V, ab, E, af])), Z⟩))))))))))
 exact Xd Z Z Z af Z (Xd Z Z Z af Z (Xc Z Z Z E (wpo_pickf (v := vb false) Z af Z Z (Xc Z Z Z E (wpo_not (b' := true) Z Z Z (wpo_pickt (v := vb true) Z E Z Z (wpo_assign (v := vb true) Z Z (wpo_nil ⟨(cB (by simp [ae, O, V, ab, E, af])), Z⟩))))))))
 have au := of_decide_eq_false E
 iterate 3 refine Xd rfl rfl rfl E rfl ?_
 exact Xz Z Z Z Z (Xz Z Z Z Z (Xd Z Z Z E Z (Xd Z Z Z E Z (wpo_pickf (v := vb false) Z E Z Z (wpo_assign (v := vb false) Z Z (wpo_nil ⟨(cB (by simp [ae, O, V, ab, E])), Z⟩))))))
 have av := of_decide_eq_false ab
 iterate 3 refine Xd rfl rfl rfl ab rfl ?_
 refine wpo_pickf (v := vb false) Z ab Z Z (wpo_move (v := vb false) Z Z ?_)
 iterate 3 refine Xd rfl rfl rfl rfl rfl ?_
 exact Xz Z Z Z Z (Xz Z Z Z Z (Xd Z Z Z Z Z (Xd Z Z Z Z Z (wpo_pickf (v := vb false) Z Z Z Z (wpo_assign (v := vb false) Z Z (wpo_nil ⟨(cB (by simp [ae, O, V, ab])), Z⟩))))))
 have aw := of_decide_eq_false V
 iterate 3 refine Xd rfl rfl rfl V rfl ?_
 refine wpo_pickf (v := vb false) Z V Z Z (wpo_move (v := vb false) Z Z ?_)
 iterate 3 refine Xd rfl rfl rfl rfl rfl ?_
 refine wpo_pickf (v := vb false) Z Z Z Z (wpo_move (v := vb false) Z Z ?_)
 iterate 3 refine Xd rfl rfl rfl rfl rfl ?_
 exact Xz Z Z Z Z (Xz Z Z Z Z (Xd Z Z Z Z Z (Xd Z Z Z Z Z (wpo_pickf (v := vb false) Z Z Z Z (wpo_assign (v := vb false) Z Z (wpo_nil ⟨(cB (by simp [ae, O, V])), Z⟩))))))
 have az := of_decide_eq_false O
 iterate 3 refine Xd rfl rfl rfl O rfl ?_
 refine wpo_pickf (v := vb false) Z O Z Z (wpo_move (v := vb false) Z Z ?_)
 iterate 3 refine Xd rfl rfl rfl rfl rfl ?_
 refine wpo_pickf (v := vb false) Z Z Z Z (wpo_move (v := vb false) Z Z ?_)
 iterate 3 refine Xd rfl rfl rfl rfl rfl ?_
 refine wpo_pickf (v := vb false) Z Z Z Z (wpo_move (v := vb false) Z Z ?_)
 iterate 3 refine Xd rfl rfl rfl rfl rfl ?_
 exact Xz Z Z Z Z (Xz Z Z Z Z (Xd Z Z Z Z Z (Xd Z Z Z Z Z (wpo_pickf (v := vb false) Z Z Z Z (wpo_assign (v := vb false) Z Z (wpo_nil ⟨(cB (by simp [ae, O])), Z⟩))))))
 rintro am a8 ⟨ah, rfl⟩
 refine Xk (⟨vb (((((decide (1 ≤ r.th)) && (decide (r.th ≤ 8))) && (decide (0 ≤ r.ve))) && (decide (r.ve ≤ 5))) && (!(r.wk && r.wr))), res1 Z ah, ?_, ag⟩)
 simp [rightOk, inR, Bool.and_assoc, ae]
end Go.Dw.J
end
section
namespace Go.Dw.J
open Go.RowKit Go.Dw Go.Proofs
set_option linter.unusedSectionVars false
set_option maxRecDepth 100000
set_option maxHeartbeats 4000000
set_option linter.unusedSimpArgs false
set_option linter.unusedVariables false
theorem Mu : goFn Try.prog 118 = true := by kernel_rfl
theorem Dz : goFn Try.prog 16 = true := by kernel_rfl
theorem Vu : goFn Try.prog 46 = true := by kernel_rfl
theorem Kn [Comp] (n lo hi : Int) (w : World) : CallsR Try.prog 46 #[vi n, vi lo, vi hi] w (fun v w' => v = vb (inR n lo hi) ∧ w.grownBy w' none) := by
 refine Xq (n := 15) Try.func46 Z Try.ntmps46 Z (Xa (wpo_assign (v := vb false) Z Z (wpo_nil (Xt (fun f' w' => (f' 6 = vb ((decide (lo ≤ n)) && (decide (n ≤ hi)))) ∧ w = w') ?_ ?_))))
 refine wpo_move (v := vi n) Z Z (wpo_move (v := vi lo) Z Z (wpo_geq (q := decide (lo ≤ n)) Z Z Z Z (wpo_move (v := vb (decide (lo ≤ n))) Z Z ?_)))
 rcases X1 (decide (lo ≤ n)) with E | E
 have ab := of_decide_eq_true E
 exact Xc Z Z Z E (wpo_move (v := vi n) Z Z (Xc Z Z Z E (wpo_move (v := vi hi) Z Z (Xc Z Z Z E (wpo_leq (q := decide (n ≤ hi)) Z Z Z Z (wpo_pickt (v := vb (decide (n ≤ hi))) Z E Z Z (wpo_assign (v := vb (decide (n ≤ hi))) Z Z (wpo_nil ⟨(cB (by simp [E])), Z⟩))))))))
 have ac := of_decide_eq_false E
 iterate 3 refine Xd rfl rfl rfl E rfl ?_
 exact wpo_pickf (v := vb false) Z E Z Z (wpo_assign (v := vb false) Z Z (wpo_nil ⟨(cB (by simp [E])), Z⟩))
 rintro V ae ⟨O, rfl⟩
 refine Xk (⟨vb ((decide (lo ≤ n)) && (decide (n ≤ hi))), res1 Z O, ?_, (World.grownBy.refl w none)⟩)
 rfl
theorem Jc [Comp] (n lo hi : Int) (w : World) : CallsR Try.prog 50 #[vi n, vi lo, vi hi] w (fun v w' => v = vb (inR n lo hi) ∧ w.grownBy w' none) := by
 refine Xq (n := 15) Try.func50 Z Try.ntmps50 Z (Xa (wpo_assign (v := vb false) Z Z (wpo_nil (Xt (fun f' w' => (f' 6 = vb ((decide (lo ≤ n)) && (decide (n ≤ hi)))) ∧ w = w') ?_ ?_))))
 refine wpo_move (v := vi lo) Z Z (wpo_move (v := vi n) Z Z (wpo_leq (q := decide (lo ≤ n)) Z Z Z Z (wpo_move (v := vb (decide (lo ≤ n))) Z Z ?_)))
 rcases X1 (decide (lo ≤ n)) with E | E
 have ab := of_decide_eq_true E
 exact Xc Z Z Z E (wpo_move (v := vi n) Z Z (Xc Z Z Z E (wpo_move (v := vi hi) Z Z (Xc Z Z Z E (wpo_leq (q := decide (n ≤ hi)) Z Z Z Z (wpo_pickt (v := vb (decide (n ≤ hi))) Z E Z Z (wpo_assign (v := vb (decide (n ≤ hi))) Z Z (wpo_nil ⟨(cB (by simp [E])), Z⟩))))))))
 have ac := of_decide_eq_false E
 iterate 3 refine Xd rfl rfl rfl E rfl ?_
 exact wpo_pickf (v := vb false) Z E Z Z (wpo_assign (v := vb false) Z Z (wpo_nil ⟨(cB (by simp [E])), Z⟩))
 rintro V ae ⟨O, rfl⟩
 refine Xk (⟨vb ((decide (lo ≤ n)) && (decide (n ≤ hi))), res1 Z O, ?_, (World.grownBy.refl w none)⟩)
 rfl
theorem Uy [Comp] (l : Lab) (w : World) : CallsR Try.prog 16 #[.agg #[vi l.s, vi l.v]] w (fun v w' => v = vb (labelOk l) ∧ w.grownBy w' none) := by
 refine Xq (n := 11) Try.func16 Z Try.ntmps16 Z ?_
 have af := World.grownBy.refl w none
 refine Xa (wpo_box (v := .agg #[vi l.s, vi l.v]) (cs := #[vi l.s, vi l.v]) Z Z Z ?_)
 intro ai ag O
 have ah := Xy O af
 refine wpo_assign (v := vb false) Z Z (wpo_nil (Xt (fun f' w' => (f' 2 = vb (inR l.s 0 3 && inR l.v 0 3)) ∧ ag.grownBy w' none) ?_ ?_))
 refine wpo_fieldAddr (o' := 0) Va Z Z Z (wpo_load1 (v := vi l.s) X0 Z (O.blk.cell Z) Z (Xg Vu (Xb Z (Xb Z (Xb Z Xf))) Z (Kn l.s 0 3 _) ?_))
 rintro _ ak ⟨rfl, V⟩
 refine wpo_move (v := vb (inR l.s 0 3)) Z Z ?_
 rcases X1 (inR l.s 0 3) with E | E
 refine Xc Z Z Z E (wpo_fieldAddr (o' := 1) Ub Z Z Z (Xc Z Z Z E (wpo_load1 (v := vi l.v) X0 Z ((O.blk.grown0 V).cell Z) Z (Xc Z Z Z E (Xg Vu (Xb Z (Xb Z (Xb Z Xf))) Z (Kn l.v 0 3 _) ?_)))))
 rintro _ al ⟨rfl, ab⟩
 exact wpo_pickt (v := vb (inR l.v 0 3)) Z E Z Z (wpo_assign (v := vb (inR l.v 0 3)) Z Z (wpo_nil ⟨(cB (by simp [E])), (Xe V ab)⟩))
 iterate 3 refine Xd rfl rfl rfl E rfl ?_
 exact wpo_pickf (v := vb false) Z E Z Z (wpo_assign (v := vb false) Z Z (wpo_nil ⟨(cB (by simp [E])), V⟩))
 rintro aj am ⟨ae, ac⟩
 refine Xk (⟨vb (inR l.s 0 3 && inR l.v 0 3), res1 Z ae, ?_, (low0 (low0 af O.grw) ac)⟩)
 rfl
theorem M2 [Comp] (a b : Int) (ha : 0 ≤ a ∧ a ≤ 3) (hb : 0 ≤ b ∧ b ≤ 3) (w : World) : CallsR Try.prog 118 #[vi a, vi b] w (fun v w' => v = vb (l1In a b) ∧ w.grownBy w' none) := by
 refine Xq (n := 17) Try.func118 Z Try.ntmps118 Z (Xa (wpo_assign (v := vb false) Z Z (wpo_nil (Xt (fun f' w' => (f' 4 = vb ((decide (a % 2 ≤ b % 2)) && (decide (a / 2 ≤ b / 2)))) ∧ w = w') ?_ ?_))))
 refine wpo_move (v := vi a) Z Z (wpo_rem (c := a % 2) Z Z (by omega) (by omega) (by omega) Z Z (wpo_move (v := vi b) Z Z (wpo_rem (c := b % 2) Z Z (by omega) (by omega) (by omega) Z Z (wpo_leq (q := decide (a % 2 ≤ b % 2)) Z Z Z Z (wpo_move (v := vb (decide (a % 2 ≤ b % 2))) Z Z ?_)))))
 rcases X1 (decide (a % 2 ≤ b % 2)) with E | E
 have ab := of_decide_eq_true E
 exact Xc Z Z Z E (wpo_move (v := vi a) Z Z (Xc Z Z Z E (wpo_quo (c := a / 2) Z Z (by omega) (by omega) (by omega) Z Z (Xc Z Z Z E (wpo_move (v := vi b) Z Z (Xc Z Z Z E (wpo_quo (c := b / 2) Z Z (by omega) (by omega) (by omega) Z Z (Xc Z Z Z E (wpo_leq (q := decide (a / 2 ≤ b / 2)) Z Z Z Z (wpo_pickt (v := vb (decide (a / 2 ≤ b / 2))) Z E Z Z (wpo_assign (v := vb (decide (a / 2 ≤ b / 2))) Z Z (wpo_nil ⟨(cB (by simp [E])), Z⟩))))))))))))
 have ac := of_decide_eq_false E
 iterate 5 refine Xd rfl rfl rfl E rfl ?_
 exact wpo_pickf (v := vb false) Z E Z Z (wpo_assign (v := vb false) Z Z (wpo_nil ⟨(cB (by simp [E])), Z⟩))
 rintro V ae ⟨O, rfl⟩
 refine Xk (⟨vb ((decide (a % 2 ≤ b % 2)) && (decide (a / 2 ≤ b / 2))), res1 Z O, ?_, (World.grownBy.refl w none)⟩)
 rfl
theorem M1 [Comp] (a b : Lab) (hla : labelOk a = true) (hlb : labelOk b = true) (w : World) : CallsR Try.prog 92 #[.agg #[vi a.s, vi a.v], .agg #[vi b.s, vi b.v]] w (fun v w' => v = vb (flow a b) ∧ w.grownBy w' none) := by
 refine Xq (n := 17) Try.func92 Z Try.ntmps92 Z ?_
 have aj := World.grownBy.refl w none
 obtain ⟨⟨av, aw⟩, ha3, az⟩ := (J9 a).1 hla
 obtain ⟨⟨hc1, hc2⟩, a8, a9⟩ := (J9 b).1 hlb
 refine Xa (wpo_box (v := .agg #[vi a.s, vi a.v]) (cs := #[vi a.s, vi a.v]) Z Z Z ?_)
 intro an aq V
 have al := Xy V aj
 have ac := low0 aj V.grw
 refine wpo_box (v := .agg #[vi b.s, vi b.v]) (cs := #[vi b.s, vi b.v]) Z Z Z ?_
 intro ao ak O
 have am := Xy O ac
 have ae := Xn O (V.blk).lt
 refine wpo_assign (v := vb false) Z Z (wpo_nil (Xt (fun f' w' => (f' 4 = vb (l1In a.s b.s && l1In b.v a.v)) ∧ ak.grownBy w' none) ?_ ?_))
 refine wpo_fieldAddr (o' := 0) Va Z Z Z ?_
 have af := (V.blk.grown0 O.grw)
 refine wpo_load1 (v := vi a.s) X0 Z (af.cell Z) Z (wpo_fieldAddr (o' := 0) Va Z Z Z (wpo_load1 (v := vi b.s) X0 Z (O.blk.cell Z) Z (Xg Mu (Xb Z (Xb Z Xf)) Z (M2 a.s b.s (by omega) (by omega) _) ?_)))
 rintro _ ar ⟨rfl, ab⟩
 refine wpo_move (v := vb (l1In a.s b.s)) Z Z ?_
 rcases X1 (l1In a.s b.s) with E | E
 refine Xc Z Z Z E (wpo_fieldAddr (o' := 1) Ub Z Z Z (Xc Z Z Z E (wpo_load1 (v := vi b.v) X0 Z ((O.blk.grown0 ab).cell Z) Z (Xc Z Z Z E (wpo_fieldAddr (o' := 1) Ub Z Z Z (Xc Z Z Z E (wpo_load1 (v := vi a.v) X0 Z ((af.grown0 ab).cell Z) Z (Xc Z Z Z E (Xg Mu (Xb Z (Xb Z Xf)) Z (M2 b.v a.v (by omega) (by omega) _) ?_)))))))))
 rintro _ as ⟨rfl, ag⟩
 exact wpo_pickt (v := vb (l1In b.v a.v)) Z E Z Z (wpo_assign (v := vb (l1In b.v a.v)) Z Z (wpo_nil ⟨(cB (by simp [E])), (Xe ab ag)⟩))
 iterate 5 refine Xd rfl rfl rfl E rfl ?_
 exact wpo_pickf (v := vb false) Z E Z Z (wpo_assign (v := vb false) Z Z (wpo_nil ⟨(cB (by simp [E])), ab⟩))
 rintro ap au ⟨ai, ah⟩
 refine Xk (⟨vb (l1In a.s b.s && l1In b.v a.v), res1 Z ai, ?_, (low0 (low0 ac O.grw) ah)⟩)
 rfl
theorem Hn [Comp] (r : Rt) (w : World) : CallsR Try.prog 94 #[.agg #[vi r.th, vi r.ve, vb r.rd, vb r.wr, vb r.wk]] w (fun v w' => v = vb (rightOk r) ∧ w.grownBy w' none) := by
 refine Xq (n := 26) Try.func94 Z Try.ntmps94 Z ?_
 have al := World.grownBy.refl w none
 refine Xa (wpo_box (v := .agg #[vi r.th, vi r.ve, vb r.rd, vb r.wr, vb r.wk]) (cs := #[vi r.th, vi r.ve, vb r.rd, vb r.wr, vb r.wk]) Z Z Z ?_)
 intro ao am ac
 have an := Xy ac al
 have ag := low0 al ac.grw
 refine wpo_assign (v := vb false) Z Z (wpo_nil (Xi (Xa (wpo_fieldAddr (o' := 0) Qu Z Z Z (wpo_load1 (v := vi r.th) X0 Z (ac.blk.cell Z) Z (wpo_eql (q := decide (r.th = 0)) Z Z Z Z (wpo_nil (Xs Z (fun V => ?_) (fun V => ?_)))))))))
 have aq := of_decide_eq_true V
 refine Xa (wpo_loadn (vs := [vi r.th, vi r.ve, vb r.rd, vb r.wr, vb r.wk]) Yy Z Z (ac.blk.rangeL 0 5 Z) Z (wpo_build (ps := []) (v := .agg #[vi 0, vi 0, vb false, vb false, vb false]) Xv (fun _ => by kernel_rfl) Z (wpo_eqs (q := decide (r = Rt.zero)) Z Z Z Z (fun _ => Mn _ _ r Rt.zero _) (fun _ => P9 r Rt.zero _) Z Z (wpo_assign (v := vb (decide (r = Rt.zero))) Z Z (wpo_nil (Xk (X9 (⟨vb (decide (r = Rt.zero)), res1 Z Z, ?_, ag⟩))))))))
 exact cB (Tt V)
 have ar := of_decide_eq_false V
 refine Xl (Xr (Xt (fun f' w' => (f' 2 = vb ((inR r.th 1 8 && inR r.ve 0 5) && (!(r.wk && r.wr)))) ∧ am.grownBy w' none) ?_ ?_))
 refine wpo_fieldAddr (o' := 0) Qu Z Z Z (wpo_load1 (v := vi r.th) X0 Z (ac.blk.cell Z) Z (Xg Vu (Xb Z (Xb Z (Xb Z Xf))) Z (Kn r.th 1 8 _) ?_))
 rintro _ as ⟨rfl, ae⟩
 refine wpo_move (v := vb (inR r.th 1 8)) Z Z ?_
 rcases X1 (inR r.th 1 8) with O | O
 refine Xc Z Z Z O (wpo_fieldAddr (o' := 1) J2 Z Z Z (Xc Z Z Z O ?_))
 have ah := (ac.blk.grown0 ae)
 refine wpo_load1 (v := vi r.ve) X0 Z (ah.cell Z) Z (Xc Z Z Z O (Xg Vu (Xb Z (Xb Z (Xb Z Xf))) Z (Kn r.ve 0 5 _) ?_))
 rintro _ au ⟨rfl, af⟩
 refine wpo_pickt (v := vb (inR r.ve 0 5)) Z O Z Z (wpo_move (v := vb (inR r.ve 0 5)) Z Z ?_)
 rcases X1 (inR r.ve 0 5) with E | E
 refine Xc Z Z Z E (wpo_fieldAddr (o' := 4) U8 Z Z Z (Xc Z Z Z E ?_))
 have ai := (ah.grown0 af)
 refine wpo_load1 (v := vb r.wk) Vp Z (ai.cell Z) Z (Xc Z Z Z E (wpo_move (v := vb r.wk) Z Z ?_))
 rcases X1 (r.wk) with ab | ab
 exact Xc Z Z Z ab (wpo_fieldAddr (o' := 3) Lu Z Z Z (Xc Z Z Z ab (wpo_load1 (v := vb r.wr) Vp Z (ai.cell Z) Z (Xc Z Z Z E (wpo_pickt (v := vb r.wr) Z ab Z Z (Xc Z Z Z E (wpo_not (b' := !r.wr) Z Z Z (wpo_pickt (v := vb (!r.wr)) Z E Z Z (wpo_assign (v := vb (!r.wr)) Z Z (wpo_nil ⟨(cB (by simp [V, O, E, ab])), (Xe ae af)⟩))))))))))
 exact Xd Z Z Z ab Z (Xd Z Z Z ab Z (Xc Z Z Z E (wpo_pickf (v := vb false) Z ab Z Z (Xc Z Z Z E (wpo_not (b' := true) Z Z Z (wpo_pickt (v := vb true) Z E Z Z (wpo_assign (v := vb true) Z Z (wpo_nil ⟨(cB (by simp [V, O, E, ab])), (Xe ae af)⟩))))))))
 iterate 3 refine Xd rfl rfl rfl E rfl ?_
 exact Xz Z Z Z Z (Xz Z Z Z Z (Xd Z Z Z E Z (Xd Z Z Z E Z (wpo_pickf (v := vb false) Z E Z Z (wpo_assign (v := vb false) Z Z (wpo_nil ⟨(cB (by simp [V, O, E])), (Xe ae af)⟩))))))
 iterate 3 refine Xd rfl rfl rfl O rfl ?_
 refine wpo_pickf (v := vb false) Z O Z Z (wpo_move (v := vb false) Z Z ?_)
 iterate 3 refine Xd rfl rfl rfl rfl rfl ?_
 exact Xz Z Z Z Z (Xz Z Z Z Z (Xd Z Z Z Z Z (Xd Z Z Z Z Z (wpo_pickf (v := vb false) Z Z Z Z (wpo_assign (v := vb false) Z Z (wpo_nil ⟨(cB (by simp [V, O])), ae⟩))))))
 rintro ap av ⟨ak, aj⟩
 refine Xk (⟨vb ((inR r.th 1 8 && inR r.ve 0 5) && (!(r.wk && r.wr))), res1 Z ak, ?_, (low0 ag aj)⟩)
 exact cB (Ts V)
end Go.Dw.J
end
section
namespace Go.Dw.J
open Go.RowKit Go.Dw Go.Proofs
set_option linter.unusedSectionVars false
set_option maxRecDepth 100000
set_option maxHeartbeats 4000000
set_option linter.unusedSimpArgs false
set_option linter.unusedVariables false
theorem G7 : elemSz Try.prog 32 = some 5 := by kernel_rfl
theorem Sg : mkTy Try.prog 32 = some (74, 5, 24, some (.agg #[.int .i64 0, .int .i64 0, .bool false, .bool false, .bool false])) := by kernel_rfl
theorem Hw : zeroTy Try.prog 74 = some (.agg #[.int .i64 0, .int .i64 0, .bool false, .bool false, .bool false]) := by kernel_rfl
end Go.Dw.J
end
section
namespace Go.Dw.J
open Go.RowKit Go.Dw Go.Proofs
set_option linter.unusedSectionVars false
set_option maxRecDepth 100000
set_option maxHeartbeats 4000000
set_option linter.unusedSimpArgs false
set_option linter.unusedVariables false
theorem Mo : elemSz Try.prog 22 = some 1 := by kernel_rfl
theorem Kx : elemSz Try.prog 33 = some 1 := by kernel_rfl
theorem Ky : fieldOff Try.prog 97 0 = some 0 := by kernel_rfl
theorem Lv : fieldOff Try.prog 97 1 = some 1 := by kernel_rfl
theorem Y7 : goFn Try.prog 60 = true := by kernel_rfl
theorem Gi : oneTy Try.prog 22 = true := by kernel_rfl
theorem Eu : oneTy Try.prog 5 = true := by kernel_rfl
theorem Yi [Comp] (p n : Int) (hp : 0 ≤ p ∧ p ≤ 1099511627776) (lo R : Nat) (bs : List Int) (a : Option Addr) (c : Nat) (w : World) (hR : Blk w R 97 #[.slice a bs.length c, vi p]) (hlo : lo ≤ R) (hs : SlLt lo w a 1 (bs.map bcell)) (hb : ∀ b ∈ bs, 0 ≤ b ∧ b ≤ 255) (hn : bs.length ≤ 1048576) : CallsR Try.prog 60 #[pt R 0, vi n] w (fun v w' => ∃ k : Int, v = vi k ∧ 0 ≤ k ∧ (k < n ∨ k = 0) ∧ Blk w' R 97 #[.slice a bs.length c, vi (p + 1)] ∧ w.grownBy w' (some R)) := by
 refine Xq (n := 99) Try.func60 Z Try.ntmps60 Z ?_
 have hRlt := hR.lt
 refine Xa (wpo_assign (v := vi 0) Z Z (wpo_nil (Xa (wpo_move (v := pt R 0) Z Z (wpo_move (v := pt R 0) Z Z (wpo_nilCheck Z Z (wpo_fieldAddr (o' := 1) Lv Z Z Z (wpo_load1 (v := vi p) X0 Z (hR.cell Z) Z (wpo_add (c := p + 1) Z Z (by omega) (by omega) (by omega) Z (wpo_nilCheck Z Z (wpo_fieldAddr (o' := 1) Lv Z Z Z (wpo_store1 (v := vi (p + 1)) (cs' := #[.slice a bs.length c, vi (p + 1)]) X0 Z Z Z hR (Nat.le_of_ble_eq_true Z) Z ?_))))))))))))
 intro an V
 have ac := Xe (World.grownBy.refl w (some R)) V.grw
 refine wpo_nil (Xi (Xt (fun f' w' => (f' 0 = pt R 0 ∧ f' 1 = vi n ∧ f' 4 = vi 0 ∧ f' 24 = vb ((decide (n < 1)) || (decide ((bs.length : Int) = 0)))) ∧ an = w') ?_ ?_))
 refine wpo_move (v := vi n) Z Z (wpo_lss (q := decide (n < 1)) Z Z Z Z (wpo_move (v := vb (decide (n < 1))) Z Z ?_))
 rcases X1 (decide (n < 1)) with ab | ab
 have cw := of_decide_eq_true ab
 iterate 6 refine Xd rfl rfl rfl ab rfl ?_
 exact wpo_pickt (v := vb true) Z ab Z Z (wpo_nil ⟨⟨Z, Z, Z, (cB (by simp [ab]))⟩, Z⟩)
 have cx := of_decide_eq_false ab
 refine Xc Z Z Z ab (wpo_move (v := pt R 0) Z Z (Xc Z Z Z ab (wpo_nilCheck Z Z (Xc Z Z Z ab (wpo_fieldAddr (o' := 0) Ky Z Z Z (Xc Z Z Z ab (wpo_load1 (v := .slice a bs.length c) Gi Z (V.blk.cell Z) Z (Xc Z Z Z ab (wpo_len (by kernel_rfl) Z Z (Xc Z Z Z ab (wpo_eql (q := decide ((bs.length : Int) = 0)) Z Z Z Z (wpo_pickf (v := vb (decide ((bs.length : Int) = 0))) Z ab Z Z ?_))))))))))))
 exact wpo_nil ⟨⟨Z, Z, Z, (cB (by simp [ab]))⟩, Z⟩
 rintro co dk ⟨⟨ae, am, cn, bi⟩, rfl⟩
 refine Xs bi (fun ag => ?_) (fun ag => ?_)
 refine Xa (wpo_assign (v := vi 0) Z Z (wpo_nil (Xk (X9 ?_))))
 refine ⟨vi 0, res1 Z Z, 0, Z, by omega, by omega, V.blk, ac⟩
 have bj := J6 ag
 have cy := of_decide_eq_false bj
 have bk := J7 ag
 have cz := of_decide_eq_false bk
 refine Xl (Xr (Xa (wpo_move (v := pt R 0) ae Z (wpo_nilCheck Z Z (wpo_fieldAddr (o' := 1) Lv Z Z Z (wpo_load1 (v := vi (p + 1)) X0 Z (V.blk.cell Z) Z (wpo_sub (c := (p + 1) - 1) Z Z (by omega) (by omega) (by omega) Z (wpo_assign (v := vi ((p + 1) - 1)) Z Z (wpo_nil (Xi (Xa (wpo_move (v := vi ((p + 1) - 1)) Z Z ?_))))))))))))
 refine wpo_move (v := pt R 0) ae Z (wpo_nilCheck Z Z (wpo_fieldAddr (o' := 0) Ky Z Z Z (wpo_load1 (v := .slice a bs.length c) Gi Z (V.blk.cell Z) Z (wpo_len (by kernel_rfl) Z Z (wpo_lss (q := decide ((p + 1) - 1 < (bs.length : Int))) Z Z Z Z (wpo_nil (Xs Z (fun ah => ?_) (fun ah => ?_))))))))
 have da := of_decide_eq_true ah
 refine Xa (wpo_move (v := pt R 0) ae Z (wpo_nilCheck Z Z (wpo_fieldAddr (o' := 0) Ky Z Z Z (wpo_load1 (v := .slice a bs.length c) Gi Z (V.blk.cell Z) Z (wpo_move (v := vi ((p + 1) - 1)) Z Z ?_)))))
 obtain ⟨af, aj⟩ := Qo (l := bs) (i := ((p + 1) - 1).toNat) (by omega)
 obtain ⟨cm, de, dc, ao, a9, br, bd⟩ := SlLt.at hs (Yk aj)
 have bn := hb af (List.mem_of_getElem? aj)
 refine Xx Mo Z Z ao a9 (by omega) (by omega) Z (wpo_load1 (v := .int .u8 af) Eu Z ((Qs bd ac (Qf (by omega))) 0 _ Z) Z (wpo_conv (P := Try.prog) (k' := .i64) Z (by kernel_rfl) (by kernel_rfl) (G4 (by omega) (by omega)) Z (wpo_move (v := vi n) am Z ?_)))
 have bv := Int.emod_nonneg af (show n ≠ 0 by omega)
 have bw := Int.emod_lt_of_pos af (show 0 < n by omega)
 refine wpo_rem (c := af % n) Z Z (by omega) (by omega) (by omega) Z Z (wpo_assign (v := vi (af % n)) Z Z (wpo_nil (Xk (X9 ?_))))
 refine ⟨vi (af % n), res1 Z Z, (af % n), Z, by omega, by omega, V.blk, ac⟩
 have db := of_decide_eq_false ah
 refine Xl (Xr (Xi ?_))
 have bz := Int.emod_nonneg ((p + 1) - 1) (show (bs.length : Int) ≠ 0 by omega)
 have ca := Int.emod_lt_of_pos ((p + 1) - 1) (show 0 < (bs.length : Int) by omega)
 obtain ⟨E, ak⟩ := Qo (l := bs) (i := (((p + 1) - 1) % (bs.length : Int)).toNat) (by omega)
 obtain ⟨bg, dh, bl, ap, ba, bt, be⟩ := SlLt.at hs (Yk ak)
 have bp := hb E (List.mem_of_getElem? ak)
 have cc := Int.emod_nonneg (((p + 1) - 1) * 7 + 3) (show (bs.length : Int) ≠ 0 by omega)
 have cd := Int.emod_lt_of_pos (((p + 1) - 1) * 7 + 3) (show 0 < (bs.length : Int) by omega)
 obtain ⟨O, al⟩ := Qo (l := bs) (i := ((((p + 1) - 1) * 7 + 3) % (bs.length : Int)).toNat) (by omega)
 obtain ⟨bh, di, bm, aq, bc, bu, bf⟩ := SlLt.at hs (Yk al)
 have bq := hb O (List.mem_of_getElem? al)
 have ce := Int.ediv_nonneg (show 0 ≤ ((p + 1) - 1) by omega) (show 0 ≤ (bs.length : Int) by omega)
 have cg := Int.ediv_le_self (bs.length : Int) (show 0 ≤ ((p + 1) - 1) by omega)
 refine Qx (m := 44) (vals := [(47, pt R 0), (48, pt R 0), (49, pt R 0), (50, .slice a bs.length c), (51, vi ((p + 1) - 1)), (52, pt R 0), (53, pt R 0), (54, pt R 0), (55, .slice a bs.length c), (56, vi (bs.length : Int)), (57, vi (((p + 1) - 1) % (bs.length : Int))), (58, pt bg bl), (59, .int .u8 E), (60, vi E), (61, vi (E * 131)), (62, pt R 0), (63, pt R 0), (64, pt R 0), (65, .slice a bs.length c), (66, vi ((p + 1) - 1)), (67, vi (((p + 1) - 1) * 7)), (68, vi (((p + 1) - 1) * 7 + 3)), (69, pt R 0), (70, pt R 0), (71, pt R 0), (72, .slice a bs.length c), (73, vi (bs.length : Int)), (74, vi ((((p + 1) - 1) * 7 + 3) % (bs.length : Int))), (75, pt bh bm), (76, .int .u8 O), (77, vi O), (78, vi (O * 1117)), (79, vi (E * 131 + (O * 1117))), (80, vi ((p + 1) - 1)), (81, vi (((p + 1) - 1) * 29)), (82, vi (E * 131 + (O * 1117) + (((p + 1) - 1) * 29))), (83, vi ((p + 1) - 1)), (84, pt R 0), (85, pt R 0), (86, pt R 0), (87, .slice a bs.length c), (88, vi (bs.length : Int)), (89, vi (((p + 1) - 1) / (bs.length : Int))), (90, vi ((((p + 1) - 1) / (bs.length : Int)) * 53))]) (fun w' => an.grownBy w' none) Q4 (by kernel_rfl) (X5 _) ?_ ?_
 refine yl Z (fun _ _ k => wpo_move (v := pt R 0) ae Z k) (yl Z (fun _ _ k => wpo_nilCheck Z Z k) (yl Z (fun _ _ k => wpo_fieldAddr (o' := 0) Ky Z Z Z k) (yl Z (fun _ ar k => wpo_load1 (v := .slice a bs.length c) Gi Z ((V.blk.grown0 ar).cell Z) Z k) (yl Z (fun _ _ k => wpo_move (v := vi ((p + 1) - 1)) Z Z k) (yl Z (fun _ _ k => wpo_move (v := pt R 0) ae Z k) (yl Z (fun _ _ k => wpo_nilCheck Z Z k) (yl Z (fun _ _ k => wpo_fieldAddr (o' := 0) Ky Z Z Z k) (yl Z (fun _ as k => wpo_load1 (v := .slice a bs.length c) Gi Z ((V.blk.grown0 as).cell Z) Z k) (yl Z (fun _ _ k => wpo_len (by kernel_rfl) Z Z k) (yl Z (fun _ _ k => wpo_rem (c := ((p + 1) - 1) % (bs.length : Int)) Z Z (by omega) (by omega) (by omega) Z Z k) ?_))))))))))
 refine yl Z (fun _ _ k => Xx Mo Z Z ap ba (by omega) (by omega) Z k) (yl Z (fun _ au k => wpo_load1 (v := .int .u8 E) Eu Z ((Qs be (low0 ac au) (Qf (by omega))) 0 _ Z) Z k) (yl Z (fun _ _ k => wpo_conv (P := Try.prog) (k' := .i64) Z (by kernel_rfl) (by kernel_rfl) (G4 (by omega) (by omega)) Z k) (yl Z (fun _ _ k => wpo_mul (c := E * 131) Z Z Z (by omega) (by omega) Z k) (yl Z (fun _ _ k => wpo_move (v := pt R 0) ae Z k) (yl Z (fun _ _ k => wpo_nilCheck Z Z k) (yl Z (fun _ _ k => wpo_fieldAddr (o' := 0) Ky Z Z Z k) (yl Z (fun _ av k => wpo_load1 (v := .slice a bs.length c) Gi Z ((V.blk.grown0 av).cell Z) Z k) (yl Z (fun _ _ k => wpo_move (v := vi ((p + 1) - 1)) Z Z k) (yl Z (fun _ _ k => wpo_mul (c := ((p + 1) - 1) * 7) Z Z Z (by omega) (by omega) Z k) (yl Z (fun _ _ k => wpo_add (c := ((p + 1) - 1) * 7 + 3) Z Z (by omega) (by omega) (by omega) Z k) ?_))))))))))
 refine yl Z (fun _ _ k => wpo_move (v := pt R 0) ae Z k) (yl Z (fun _ _ k => wpo_nilCheck Z Z k) (yl Z (fun _ _ k => wpo_fieldAddr (o' := 0) Ky Z Z Z k) (yl Z (fun _ aw k => wpo_load1 (v := .slice a bs.length c) Gi Z ((V.blk.grown0 aw).cell Z) Z k) (yl Z (fun _ _ k => wpo_len (by kernel_rfl) Z Z k) (yl Z (fun _ _ k => wpo_rem (c := (((p + 1) - 1) * 7 + 3) % (bs.length : Int)) Z Z (by omega) (by omega) (by omega) Z Z k) (yl Z (fun _ _ k => Xx Mo Z Z aq bc (by omega) (by omega) Z k) (yl Z (fun _ az k => wpo_load1 (v := .int .u8 O) Eu Z ((Qs bf (low0 ac az) (Qf (by omega))) 0 _ Z) Z k) (yl Z (fun _ _ k => wpo_conv (P := Try.prog) (k' := .i64) Z (by kernel_rfl) (by kernel_rfl) (G4 (by omega) (by omega)) Z k) (yl Z (fun _ _ k => wpo_mul (c := O * 1117) Z Z Z (by omega) (by omega) Z k) (yl Z (fun _ _ k => wpo_add (c := E * 131 + (O * 1117)) Z Z (by omega) (by omega) (by omega) Z k) ?_))))))))))
 refine yl Z (fun _ _ k => wpo_move (v := vi ((p + 1) - 1)) Z Z k) (yl Z (fun _ _ k => wpo_mul (c := ((p + 1) - 1) * 29) Z Z Z (by omega) (by omega) Z k) (yl Z (fun _ _ k => wpo_add (c := E * 131 + (O * 1117) + (((p + 1) - 1) * 29)) Z Z (by omega) (by omega) (by omega) Z k) (yl Z (fun _ _ k => wpo_move (v := vi ((p + 1) - 1)) Z Z k) (yl Z (fun _ _ k => wpo_move (v := pt R 0) ae Z k) (yl Z (fun _ _ k => wpo_nilCheck Z Z k) (yl Z (fun _ _ k => wpo_fieldAddr (o' := 0) Ky Z Z Z k) (yl Z (fun _ a8 k => wpo_load1 (v := .slice a bs.length c) Gi Z ((V.blk.grown0 a8).cell Z) Z k) (yl Z (fun _ _ k => wpo_len (by kernel_rfl) Z Z k) (yl Z (fun _ _ k => wpo_quo (c := ((p + 1) - 1) / (bs.length : Int)) Z Z (by omega) (by omega) (by omega) Z Z k) (yl Z (fun _ _ k => wpo_mul (c := (((p + 1) - 1) / (bs.length : Int)) * 53) Z Z Z (by omega) (by omega) Z k) ?_))))))))))
 exact Ja
 intro dl ai
 refine wpo_add (c := E * 131 + (O * 1117) + (((p + 1) - 1) * 29) + ((((p + 1) - 1) / (bs.length : Int)) * 53)) Z Z (by omega) (by omega) (by omega) Z (wpo_assign (v := vi (E * 131 + (O * 1117) + (((p + 1) - 1) * 29) + ((((p + 1) - 1) / (bs.length : Int)) * 53))) Z Z (wpo_nil (Xr (Xa (wpo_move (v := vi (E * 131 + (O * 1117) + (((p + 1) - 1) * 29) + ((((p + 1) - 1) / (bs.length : Int)) * 53))) Z Z (wpo_move (v := vi (E * 131 + (O * 1117) + (((p + 1) - 1) * 29) + ((((p + 1) - 1) / (bs.length : Int)) * 53))) Z Z (wpo_quo (c := (E * 131 + (O * 1117) + (((p + 1) - 1) * 29) + ((((p + 1) - 1) / (bs.length : Int)) * 53)) / 64) Z Z (by omega) (by omega) (by omega) Z Z ?_)))))))
 have cl := Dq (x := E * 131 + (O * 1117) + (((p + 1) - 1) * 29) + ((((p + 1) - 1) / (bs.length : Int)) * 53)) (y := (E * 131 + (O * 1117) + (((p + 1) - 1) * 29) + ((((p + 1) - 1) / (bs.length : Int)) * 53)) / 64) (by omega) (by omega) (by omega) (by omega)
 refine wpo_bin (u := vi (E * 131 + (O * 1117) + (((p + 1) - 1) * 29) + ((((p + 1) - 1) / (bs.length : Int)) * 53))) (u' := vi ((E * 131 + (O * 1117) + (((p + 1) - 1) * 29) + ((((p + 1) - 1) / (bs.length : Int)) * 53)) / 64)) (v := vi (bits .xor .i64 (E * 131 + (O * 1117) + (((p + 1) - 1) * 29) + ((((p + 1) - 1) / (bs.length : Int)) * 53)) ((E * 131 + (O * 1117) + (((p + 1) - 1) * 29) + ((((p + 1) - 1) / (bs.length : Int)) * 53)) / 64))) Z Z Z Z (fun _ => by rw [binOp_xor, intBits_xor]; Z) (fun _ _ => eqGuard_at_int ..) Z (wpo_assign (v := vi (bits .xor .i64 (E * 131 + (O * 1117) + (((p + 1) - 1) * 29) + ((((p + 1) - 1) / (bs.length : Int)) * 53)) ((E * 131 + (O * 1117) + (((p + 1) - 1) * 29) + ((((p + 1) - 1) / (bs.length : Int)) * 53)) / 64))) Z Z (wpo_nil (Xa (wpo_move (v := vi (bits .xor .i64 (E * 131 + (O * 1117) + (((p + 1) - 1) * 29) + ((((p + 1) - 1) / (bs.length : Int)) * 53)) ((E * 131 + (O * 1117) + (((p + 1) - 1) * 29) + ((((p + 1) - 1) / (bs.length : Int)) * 53)) / 64))) Z Z (wpo_move (v := vi n) am Z ?_)))))
 have cj := Int.emod_nonneg (bits .xor .i64 (E * 131 + (O * 1117) + (((p + 1) - 1) * 29) + ((((p + 1) - 1) / (bs.length : Int)) * 53)) ((E * 131 + (O * 1117) + (((p + 1) - 1) * 29) + ((((p + 1) - 1) / (bs.length : Int)) * 53)) / 64)) (show n ≠ 0 by omega)
 have ck := Int.emod_lt_of_pos (bits .xor .i64 (E * 131 + (O * 1117) + (((p + 1) - 1) * 29) + ((((p + 1) - 1) / (bs.length : Int)) * 53)) ((E * 131 + (O * 1117) + (((p + 1) - 1) * 29) + ((((p + 1) - 1) / (bs.length : Int)) * 53)) / 64)) (show 0 < n by omega)
 refine wpo_rem (c := (bits .xor .i64 (E * 131 + (O * 1117) + (((p + 1) - 1) * 29) + ((((p + 1) - 1) / (bs.length : Int)) * 53)) ((E * 131 + (O * 1117) + (((p + 1) - 1) * 29) + ((((p + 1) - 1) / (bs.length : Int)) * 53)) / 64)) % n) Z Z (by omega) (by omega) (by omega) Z Z (wpo_assign (v := vi ((bits .xor .i64 (E * 131 + (O * 1117) + (((p + 1) - 1) * 29) + ((((p + 1) - 1) / (bs.length : Int)) * 53)) ((E * 131 + (O * 1117) + (((p + 1) - 1) * 29) + ((((p + 1) - 1) / (bs.length : Int)) * 53)) / 64)) % n)) Z Z (wpo_nil (Xk ?_)))
 refine ⟨vi ((bits .xor .i64 (E * 131 + (O * 1117) + (((p + 1) - 1) * 29) + ((((p + 1) - 1) / (bs.length : Int)) * 53)) ((E * 131 + (O * 1117) + (((p + 1) - 1) * 29) + ((((p + 1) - 1) / (bs.length : Int)) * 53)) / 64)) % n), res1 Z Z, ((bits .xor .i64 (E * 131 + (O * 1117) + (((p + 1) - 1) * 29) + ((((p + 1) - 1) / (bs.length : Int)) * 53)) ((E * 131 + (O * 1117) + (((p + 1) - 1) * 29) + ((((p + 1) - 1) / (bs.length : Int)) * 53)) / 64)) % n), Z, by omega, by omega, (V.blk.grown0 ai), (low0 ac ai)⟩
theorem Rh [Comp] (p : Int) (hp : 0 ≤ p ∧ p ≤ 1000000000000) (lo R : Nat) (bs : List Int) (a : Option Addr) (c : Nat) (w : World) (hR : Blk w R 97 #[.slice a bs.length c, vi p]) (hlo : lo ≤ R) (hs : SlLt lo w a 1 (bs.map bcell)) (hb : ∀ b ∈ bs, 0 ≤ b ∧ b ≤ 255) (hn : bs.length ≤ 1048576) : CallsR Try.prog 110 #[pt R 0] w (fun v w' => ∃ (r : Rt) (p' : Int), v = .agg #[vi r.th, vi r.ve, vb r.rd, vb r.wr, vb r.wk] ∧ -1 ≤ r.th ∧ r.th ≤ 9 ∧ -1 ≤ r.ve ∧ r.ve ≤ 9 ∧ p ≤ p' ∧ p' ≤ p + 8 ∧ Blk w' R 97 #[.slice a bs.length c, vi p'] ∧ w.grownBy w' (some R)) := by
 refine Xq (n := 49) Try.func110 Z Try.ntmps110 Z ?_
 have fw := World.grownBy.refl w (some R)
 have hRlt := hR.lt
 refine Xa (wpo_alloc (cs := #[vi 0, vi 0, vb false, vb false, vb false]) Hw Z Z ?_)
 intro ic i2 as
 have fy := Xy as fw
 have fj := Xn as (hR).lt
 have cw := low0 fw as.grw
 refine wpo_nil (Xi (Xa (wpo_move (v := pt R 0) Z Z (Xg Y7 (Xb Z (Xb Z Xf)) Z (Yi p 6 (by omega) _ R bs _ _ _ (hR.grown0 as.grw) (by omega) (SlLt.low1 hs cw hlo) (by first | exact hb | exact fun b h => hb b (List.mem_of_mem_take h)) (by first | omega | (rw [List.length_take]; omega))) ?_))))
 rintro _ i3 ⟨fx, rfl, gc, gf, dz, cc⟩
 have ca := Xe cw cc
 refine wpo_eql (q := decide (fx = 0)) Z Z Z Z (wpo_nil (Xs Z (fun ce => ?_) (fun ce => ?_)))
 have il := of_decide_eq_true ce
 refine Xa (wpo_build (ps := []) (v := .agg #[vi 0, vi 0, vb false, vb false, vb false]) Xv (fun _ => by kernel_rfl) Z (wpo_storen (vs := [vi 0, vi 0, vb false, vb false, vb false]) (cs' := #[vi 0, vi 0, vb false, vb false, vb false]) Yy Z Z Z (by simp [Value.oneCell']) (as.blk.gn cc) (Nat.le_of_ble_eq_true Z) Z ?_))
 intro i4 bn
 refine wpo_nil (Xk (X9 ?_))
 refine ⟨.agg #[vi 0, vi 0, vb false, vb false, vb false], resC Z (resCell_mk (vs := [vi 0, vi 0, vb false, vb false, vb false]) Yy Z Z (bn.blk.rangeL 0 5 Z)), ⟨0, 0, false, false, false⟩, (p + 1), Z, show (-1 : Int) ≤ 0 by omega, show 0 ≤ (9 : Int) by omega, show (-1 : Int) ≤ 0 by omega, show 0 ≤ (9 : Int) by omega, by omega, by omega, (dz.gn bn.grw), (low1 ca bn.grw (by omega))⟩
 have im := of_decide_eq_false ce
 refine Xl (Xr (Xa (wpo_move (v := pt R 0) Z Z (Xg Y7 (Xb Z (Xb Z Xf)) Z (Yi (p + 1) 8 (by omega) _ R bs _ _ _ dz (by omega) (SlLt.low1 hs ca hlo) (by first | exact hb | exact fun b h => hb b (List.mem_of_mem_take h)) (by first | omega | (rw [List.length_take]; omega))) ?_))))
 rintro _ i5 ⟨V, rfl, gg, gh, fb, dk⟩
 have cx := Xe ca dk
 refine wpo_add (c := 1 + V) Z Z (by omega) (by omega) (by omega) Z (wpo_move (v := pt R 0) Z Z (Xg Y7 (Xb Z (Xb Z Xf)) Z (Yi (p + 1 + 1) 3 (by omega) _ R bs _ _ _ fb (by omega) (SlLt.low1 hs cx hlo) (by first | exact hb | exact fun b h => hb b (List.mem_of_mem_take h)) (by first | omega | (rw [List.length_take]; omega))) ?_))
 rintro _ i6 ⟨ab, rfl, gi, gj, fc, dl⟩
 have cy := Xe cx dl
 refine wpo_move (v := pt R 0) Z Z (Xg Y7 (Xb Z (Xb Z Xf)) Z (Yi (p + 1 + 1 + 1) 4 (by omega) _ R bs _ _ _ fc (by omega) (SlLt.low1 hs cy hlo) (by first | exact hb | exact fun b h => hb b (List.mem_of_mem_take h)) (by first | omega | (rw [List.length_take]; omega))) ?_)
 rintro _ i7 ⟨O, rfl, gl, gm, fd, dm⟩
 have cz := Xe cy dm
 refine wpo_gtr (q := decide (0 < O)) Z Z Z Z (wpo_move (v := pt R 0) Z Z (Xg Y7 (Xb Z (Xb Z Xf)) Z (Yi (p + 1 + 1 + 1 + 1) 2 (by omega) _ R bs _ _ _ fd (by omega) (SlLt.low1 hs cz hlo) (by first | exact hb | exact fun b h => hb b (List.mem_of_mem_take h)) (by first | omega | (rw [List.length_take]; omega))) ?_))
 rintro _ i8 ⟨E, rfl, gp, gq, cd, dn⟩
 have da := Xe cz dn
 refine wpo_eql (q := decide (E = 0)) Z Z Z Z (wpo_build (ps := [(0, vi (1 + V)), (1, vi ab), (2, vb (decide (0 < O))), (3, vb (decide (E = 0)))]) (v := .agg #[vi (1 + V), vi ab, vb (decide (0 < O)), vb (decide (E = 0)), vb false]) (Xm Z (Xm Z (Xm Z (Xm Z Xv)))) (fun _ => by kernel_rfl) Z (wpo_alloc (cs := #[vi 0, vi 0, vb false, vb false, vb false]) Hw Z Z ?_))
 intro ie i9 af
 have fz := Xy af da
 have fk := Xn af (cd).lt
 have ar := (((((as.blk.gn cc).gn dk).gn dl).gn dm).gn dn)
 have d0 := Xn af (ar).lt
 refine wpo_storen (vs := [vi (1 + V), vi ab, vb (decide (0 < O)), vb (decide (E = 0)), vb false]) (cs' := #[vi (1 + V), vi ab, vb (decide (0 < O)), vb (decide (E = 0)), vb false]) Yy Z Z Z (by simp [Value.oneCell']) af.blk (Nat.le_of_ble_eq_true Z) Z ?_
 intro ja ac
 have bi := low1 (low0 da af.grw) ac.grw (by omega)
 refine wpo_nil (Xi (Xa (wpo_fieldAddr (o' := 3) Lu Z Z Z (wpo_load1 (v := vb (decide (E = 0))) Vp Z (ac.blk.cell Z) Z (wpo_not (b' := !(decide (E = 0))) Z Z Z (wpo_nil (Xs Z (fun cg => ?_) (fun cg => ?_))))))))
 have fu := Jd cg
 have io := of_decide_eq_false fu
 refine Xo (wpo_move (v := pt R 0) Z Z (Xg Y7 (Xb Z (Xb Z Xf)) Z (Yi (p + 1 + 1 + 1 + 1 + 1) 2 (by omega) _ R bs _ _ _ ((cd.grown0 af.grw).gn ac.grw) (by omega) (SlLt.low1 hs bi hlo) (by first | exact hb | exact fun b h => hb b (List.mem_of_mem_take h)) (by first | omega | (rw [List.length_take]; omega))) ?_))
 rintro _ jb ⟨ae, rfl, gr, gt, fe, aw⟩
 refine wpo_eql (q := decide (ae = 0)) Z Z Z Z (wpo_fieldAddr (o' := 4) U8 Z Z Z (wpo_store1 (v := vb (decide (ae = 0))) (cs' := #[vi (1 + V), vi ab, vb (decide (0 < O)), vb (decide (E = 0)), vb (decide (ae = 0))]) Vp Z Z Z (ac.blk.gn aw) (Nat.le_of_ble_eq_true Z) Z ?_))
 intro jc ag
 have db := low1 (Xe bi aw) ag.grw (by omega)
 refine wpo_nil (Xr (Xi (Xa (wpo_move (v := pt R 0) Z Z (Xg Y7 (Xb Z (Xb Z Xf)) Z (Yi (p + 1 + 1 + 1 + 1 + 1 + 1) 40 (by omega) _ R bs _ _ _ (fe.gn ag.grw) (by omega) (SlLt.low1 hs db hlo) (by first | exact hb | exact fun b h => hb b (List.mem_of_mem_take h)) (by first | omega | (rw [List.length_take]; omega))) ?_)))))
 rintro _ jd ⟨a9, rfl, gu, gv, az, al⟩
 have au := Xe db al
 refine wpo_nil (Xu (Xa (wpo_eql (q := decide (a9 = 0)) Z Z Z Z (wpo_assign (v := vb (decide (a9 = 0))) Z Z (wpo_nil (Xs Z (fun cj => ?_) (fun cj => ?_)))))))
 have ip := of_decide_eq_true cj
 refine Xo (wpo_fieldAddr (o' := 4) U8 Z Z Z (wpo_store1 (v := vb true) (cs' := #[vi (1 + V), vi ab, vb (decide (0 < O)), vb (decide (E = 0)), vb true]) Vp Z Z Z (ag.blk.gn al) (Nat.le_of_ble_eq_true Z) Z ?_))
 intro je bc
 refine wpo_nil (Y1 (Xr (Xa (wpo_loadn (vs := [vi (1 + V), vi ab, vb (decide (0 < O)), vb (decide (E = 0)), vb true]) Yy Z Z (bc.blk.rangeL 0 5 Z) Z (wpo_storen (vs := [vi (1 + V), vi ab, vb (decide (0 < O)), vb (decide (E = 0)), vb true]) (cs' := #[vi (1 + V), vi ab, vb (decide (0 < O)), vb (decide (E = 0)), vb true]) Yy Z Z Z (by simp [Value.oneCell']) ((((((ar.grown0 af.grw).gn ac.grw).gn aw).gn ag.grw).gn al).gn bc.grw) (Nat.le_of_ble_eq_true Z) Z ?_)))))
 intro jf bp
 refine wpo_nil (Xk ?_)
 refine ⟨.agg #[vi (1 + V), vi ab, vb (decide (0 < O)), vb (decide (E = 0)), vb true], resC Z (resCell_mk (vs := [vi (1 + V), vi ab, vb (decide (0 < O)), vb (decide (E = 0)), vb true]) Yy Z Z (bp.blk.rangeL 0 5 Z)), ⟨1 + V, ab, decide (0 < O), decide (E = 0), true⟩, (p + 1 + 1 + 1 + 1 + 1 + 1 + 1), Z, show (-1 : Int) ≤ 1 + V by omega, show 1 + V ≤ (9 : Int) by omega, show (-1 : Int) ≤ ab by omega, show ab ≤ (9 : Int) by omega, by omega, by omega, ((az.gn bc.grw).gn bp.grw), (low1 (low1 au bc.grw (by omega)) bp.grw (by omega))⟩
 have iq := of_decide_eq_false cj
 refine Xa (wpo_eql (q := decide (a9 = 1)) Z Z Z Z (wpo_assign (v := vb (decide (a9 = 1))) Z Z (wpo_nil (Xs Z (fun ck => ?_) (fun ck => ?_)))))
 have ir := of_decide_eq_true ck
 refine Xo (wpo_buildSlice (ps := [(0, vi 0), (1, vi 9), (2, vi (-1))]) (e := 3) (cs := (([0, 9, (-1)] : List Int).flatMap icell).toArray) (Xm Z (Xm Z (Xm Z Xv))) (fun _ => by kernel_rfl) Z ?_)
 intro ig jg ah
 have f7 := Xy ah au
 have fm := Xn ah (az).lt
 have ef := (((((ar.grown0 af.grw).gn ac.grw).gn aw).gn ag.grw).gn al)
 have d5 := Xn ah (ef).lt
 have eg := (ag.blk.gn al)
 have d9 := Xn ah (eg).lt
 have dc := low0 au ah.grw
 refine wpo_move (v := pt R 0) Z Z (Xg Y7 (Xb Z (Xb Z Xf)) Z (Yi (p + 1 + 1 + 1 + 1 + 1 + 1 + 1) 3 (by omega) _ R bs _ _ _ (az.grown0 ah.grw) (by omega) (SlLt.low1 hs dc hlo) (by first | exact hb | exact fun b h => hb b (List.mem_of_mem_take h)) (by first | omega | (rw [List.length_take]; omega))) ?_)
 rintro _ jh ⟨du, rfl, gw, gx, ff, bj⟩
 refine wpo_indexAddr (o' := (du).toNat * 1) Kx Z Z (by omega) (by omega) (by omega) Z ?_
 obtain ⟨an, dp⟩ := Qo (l := ([0, 9, (-1)] : List Int)) (i := (du).toNat) (lq (du).toNat 3)
 have ex := List.mem_of_getElem? dp
 simp only [List.mem_cons, List.not_mem_nil, or_false] at ex
 refine wpo_load1 (v := vi an) X0 Z ((Ji Yc (ah.blk.gn bj) dp) 0 _ Z) Z (wpo_fieldAddr (o' := 0) Qu Z Z Z (wpo_store1 (v := vi an) (cs' := #[vi an, vi ab, vb (decide (0 < O)), vb (decide (E = 0)), vb (decide (ae = 0))]) X0 Z Z Z ((eg.grown0 ah.grw).gn bj) (Nat.le_of_ble_eq_true Z) Z ?_))
 intro ji bd
 refine wpo_nil (Y1 (Xr (Xa (wpo_loadn (vs := [vi an, vi ab, vb (decide (0 < O)), vb (decide (E = 0)), vb (decide (ae = 0))]) Yy Z Z (bd.blk.rangeL 0 5 Z) Z (wpo_storen (vs := [vi an, vi ab, vb (decide (0 < O)), vb (decide (E = 0)), vb (decide (ae = 0))]) (cs' := #[vi an, vi ab, vb (decide (0 < O)), vb (decide (E = 0)), vb (decide (ae = 0))]) Yy Z Z Z (by simp [Value.oneCell']) (((ef.grown0 ah.grw).gn bj).gn bd.grw) (Nat.le_of_ble_eq_true Z) Z ?_)))))
 intro jj bq
 refine wpo_nil (Xk ?_)
 refine ⟨.agg #[vi an, vi ab, vb (decide (0 < O)), vb (decide (E = 0)), vb (decide (ae = 0))], resC Z (resCell_mk (vs := [vi an, vi ab, vb (decide (0 < O)), vb (decide (E = 0)), vb (decide (ae = 0))]) Yy Z Z (bq.blk.rangeL 0 5 Z)), ⟨an, ab, decide (0 < O), decide (E = 0), decide (ae = 0)⟩, (p + 1 + 1 + 1 + 1 + 1 + 1 + 1 + 1), Z, show (-1 : Int) ≤ an by omega, show an ≤ (9 : Int) by omega, show (-1 : Int) ≤ ab by omega, show ab ≤ (9 : Int) by omega, by omega, by omega, ((ff.gn bd.grw).gn bq.grw), (low1 (low1 (Xe dc bj) bd.grw (by omega)) bq.grw (by omega))⟩
 have is := of_decide_eq_false ck
 refine Xa (wpo_eql (q := decide (a9 = 2)) Z Z Z Z (wpo_assign (v := vb (decide (a9 = 2))) Z Z (wpo_nil (Xs Z (fun cl => ?_) (fun cl => ?_)))))
 have it := of_decide_eq_true cl
 refine Xo (wpo_buildSlice (ps := [(0, vi (-1)), (1, vi 5), (2, vi 6)]) (e := 3) (cs := (([(-1), 5, 6] : List Int).flatMap icell).toArray) (Xm Z (Xm Z (Xm Z Xv))) (fun _ => by kernel_rfl) Z ?_)
 intro ii jk ai
 have f8 := Xy ai au
 have fp := Xn ai (az).lt
 have eh := (((((ar.grown0 af.grw).gn ac.grw).gn aw).gn ag.grw).gn al)
 have d6 := Xn ai (eh).lt
 have ei := (ag.blk.gn al)
 have ea := Xn ai (ei).lt
 have de := low0 au ai.grw
 refine wpo_move (v := pt R 0) Z Z (Xg Y7 (Xb Z (Xb Z Xf)) Z (Yi (p + 1 + 1 + 1 + 1 + 1 + 1 + 1) 3 (by omega) _ R bs _ _ _ (az.grown0 ai.grw) (by omega) (SlLt.low1 hs de hlo) (by first | exact hb | exact fun b h => hb b (List.mem_of_mem_take h)) (by first | omega | (rw [List.length_take]; omega))) ?_)
 rintro _ jl ⟨dv, rfl, gy, gz, fg, bk⟩
 refine wpo_indexAddr (o' := (dv).toNat * 1) Kx Z Z (by omega) (by omega) (by omega) Z ?_
 obtain ⟨ao, dq⟩ := Qo (l := ([(-1), 5, 6] : List Int)) (i := (dv).toNat) (lq (dv).toNat 3)
 have ey := List.mem_of_getElem? dq
 simp only [List.mem_cons, List.not_mem_nil, or_false] at ey
 refine wpo_load1 (v := vi ao) X0 Z ((Ji Yc (ai.blk.gn bk) dq) 0 _ Z) Z (wpo_fieldAddr (o' := 1) J2 Z Z Z (wpo_store1 (v := vi ao) (cs' := #[vi (1 + V), vi ao, vb (decide (0 < O)), vb (decide (E = 0)), vb (decide (ae = 0))]) X0 Z Z Z ((ei.grown0 ai.grw).gn bk) (Nat.le_of_ble_eq_true Z) Z ?_))
 intro jm be
 refine wpo_nil (Y1 (Xr (Xa (wpo_loadn (vs := [vi (1 + V), vi ao, vb (decide (0 < O)), vb (decide (E = 0)), vb (decide (ae = 0))]) Yy Z Z (be.blk.rangeL 0 5 Z) Z (wpo_storen (vs := [vi (1 + V), vi ao, vb (decide (0 < O)), vb (decide (E = 0)), vb (decide (ae = 0))]) (cs' := #[vi (1 + V), vi ao, vb (decide (0 < O)), vb (decide (E = 0)), vb (decide (ae = 0))]) Yy Z Z Z (by simp [Value.oneCell']) (((eh.grown0 ai.grw).gn bk).gn be.grw) (Nat.le_of_ble_eq_true Z) Z ?_)))))
 intro jo br
 refine wpo_nil (Xk ?_)
 refine ⟨.agg #[vi (1 + V), vi ao, vb (decide (0 < O)), vb (decide (E = 0)), vb (decide (ae = 0))], resC Z (resCell_mk (vs := [vi (1 + V), vi ao, vb (decide (0 < O)), vb (decide (E = 0)), vb (decide (ae = 0))]) Yy Z Z (br.blk.rangeL 0 5 Z)), ⟨1 + V, ao, decide (0 < O), decide (E = 0), decide (ae = 0)⟩, (p + 1 + 1 + 1 + 1 + 1 + 1 + 1 + 1), Z, show (-1 : Int) ≤ 1 + V by omega, show 1 + V ≤ (9 : Int) by omega, show (-1 : Int) ≤ ao by omega, show ao ≤ (9 : Int) by omega, by omega, by omega, ((fg.gn be.grw).gn br.grw), (low1 (low1 (Xe de bk) be.grw (by omega)) br.grw (by omega))⟩
 have iu := of_decide_eq_false cl
 refine Xl (Y1 (Xr (Xa (wpo_loadn (vs := [vi (1 + V), vi ab, vb (decide (0 < O)), vb (decide (E = 0)), vb (decide (ae = 0))]) Yy Z Z ((ag.blk.gn al).rangeL 0 5 Z) Z (wpo_storen (vs := [vi (1 + V), vi ab, vb (decide (0 < O)), vb (decide (E = 0)), vb (decide (ae = 0))]) (cs' := #[vi (1 + V), vi ab, vb (decide (0 < O)), vb (decide (E = 0)), vb (decide (ae = 0))]) Yy Z Z Z (by simp [Value.oneCell']) (((((ar.grown0 af.grw).gn ac.grw).gn aw).gn ag.grw).gn al) (Nat.le_of_ble_eq_true Z) Z ?_)))))
 intro jp bt
 refine wpo_nil (Xk ?_)
 refine ⟨.agg #[vi (1 + V), vi ab, vb (decide (0 < O)), vb (decide (E = 0)), vb (decide (ae = 0))], resC Z (resCell_mk (vs := [vi (1 + V), vi ab, vb (decide (0 < O)), vb (decide (E = 0)), vb (decide (ae = 0))]) Yy Z Z (bt.blk.rangeL 0 5 Z)), ⟨1 + V, ab, decide (0 < O), decide (E = 0), decide (ae = 0)⟩, (p + 1 + 1 + 1 + 1 + 1 + 1 + 1), Z, show (-1 : Int) ≤ 1 + V by omega, show 1 + V ≤ (9 : Int) by omega, show (-1 : Int) ≤ ab by omega, show ab ≤ (9 : Int) by omega, by omega, by omega, (az.gn bt.grw), (low1 au bt.grw (by omega))⟩
 have fv := Qn cg
 have iv := of_decide_eq_true fv
 refine Xl (Xr (Xi (Xa (wpo_move (v := pt R 0) Z Z (Xg Y7 (Xb Z (Xb Z Xf)) Z (Yi (p + 1 + 1 + 1 + 1 + 1) 40 (by omega) _ R bs _ _ _ ((cd.grown0 af.grw).gn ac.grw) (by omega) (SlLt.low1 hs bi hlo) (by first | exact hb | exact fun b h => hb b (List.mem_of_mem_take h)) (by first | omega | (rw [List.length_take]; omega))) ?_)))))
 rintro _ jq ⟨ba, rfl, g4, g7, a8, am⟩
 have av := Xe bi am
 refine wpo_nil (Xu (Xa (wpo_eql (q := decide (ba = 0)) Z Z Z Z (wpo_assign (v := vb (decide (ba = 0))) Z Z (wpo_nil (Xs Z (fun cm => ?_) (fun cm => ?_)))))))
 have iw := of_decide_eq_true cm
 refine Xo (wpo_fieldAddr (o' := 4) U8 Z Z Z (wpo_store1 (v := vb true) (cs' := #[vi (1 + V), vi ab, vb (decide (0 < O)), vb (decide (E = 0)), vb true]) Vp Z Z Z (ac.blk.gn am) (Nat.le_of_ble_eq_true Z) Z ?_))
 intro jr bf
 refine wpo_nil (Y1 (Xr (Xa (wpo_loadn (vs := [vi (1 + V), vi ab, vb (decide (0 < O)), vb (decide (E = 0)), vb true]) Yy Z Z (bf.blk.rangeL 0 5 Z) Z (wpo_storen (vs := [vi (1 + V), vi ab, vb (decide (0 < O)), vb (decide (E = 0)), vb true]) (cs' := #[vi (1 + V), vi ab, vb (decide (0 < O)), vb (decide (E = 0)), vb true]) Yy Z Z Z (by simp [Value.oneCell']) ((((ar.grown0 af.grw).gn ac.grw).gn am).gn bf.grw) (Nat.le_of_ble_eq_true Z) Z ?_)))))
 intro js bu
 refine wpo_nil (Xk ?_)
 refine ⟨.agg #[vi (1 + V), vi ab, vb (decide (0 < O)), vb (decide (E = 0)), vb true], resC Z (resCell_mk (vs := [vi (1 + V), vi ab, vb (decide (0 < O)), vb (decide (E = 0)), vb true]) Yy Z Z (bu.blk.rangeL 0 5 Z)), ⟨1 + V, ab, decide (0 < O), decide (E = 0), true⟩, (p + 1 + 1 + 1 + 1 + 1 + 1), Z, show (-1 : Int) ≤ 1 + V by omega, show 1 + V ≤ (9 : Int) by omega, show (-1 : Int) ≤ ab by omega, show ab ≤ (9 : Int) by omega, by omega, by omega, ((a8.gn bf.grw).gn bu.grw), (low1 (low1 av bf.grw (by omega)) bu.grw (by omega))⟩
 have ix := of_decide_eq_false cm
 refine Xa (wpo_eql (q := decide (ba = 1)) Z Z Z Z (wpo_assign (v := vb (decide (ba = 1))) Z Z (wpo_nil (Xs Z (fun cn => ?_) (fun cn => ?_)))))
 have iy := of_decide_eq_true cn
 refine Xo (wpo_buildSlice (ps := [(0, vi 0), (1, vi 9), (2, vi (-1))]) (e := 3) (cs := (([0, 9, (-1)] : List Int).flatMap icell).toArray) (Xm Z (Xm Z (Xm Z Xv))) (fun _ => by kernel_rfl) Z ?_)
 intro ij jt aj
 have f9 := Xy aj av
 have fq := Xn aj (a8).lt
 have ej := (((ar.grown0 af.grw).gn ac.grw).gn am)
 have d7 := Xn aj (ej).lt
 have ek := (ac.blk.gn am)
 have ed := Xn aj (ek).lt
 have dh := low0 av aj.grw
 refine wpo_move (v := pt R 0) Z Z (Xg Y7 (Xb Z (Xb Z Xf)) Z (Yi (p + 1 + 1 + 1 + 1 + 1 + 1) 3 (by omega) _ R bs _ _ _ (a8.grown0 aj.grw) (by omega) (SlLt.low1 hs dh hlo) (by first | exact hb | exact fun b h => hb b (List.mem_of_mem_take h)) (by first | omega | (rw [List.length_take]; omega))) ?_)
 rintro _ ju ⟨dw, rfl, g8, g9, fh, bl⟩
 refine wpo_indexAddr (o' := (dw).toNat * 1) Kx Z Z (by omega) (by omega) (by omega) Z ?_
 obtain ⟨ap, dr⟩ := Qo (l := ([0, 9, (-1)] : List Int)) (i := (dw).toNat) (lq (dw).toNat 3)
 have ez := List.mem_of_getElem? dr
 simp only [List.mem_cons, List.not_mem_nil, or_false] at ez
 refine wpo_load1 (v := vi ap) X0 Z ((Ji Yc (aj.blk.gn bl) dr) 0 _ Z) Z (wpo_fieldAddr (o' := 0) Qu Z Z Z (wpo_store1 (v := vi ap) (cs' := #[vi ap, vi ab, vb (decide (0 < O)), vb (decide (E = 0)), vb false]) X0 Z Z Z ((ek.grown0 aj.grw).gn bl) (Nat.le_of_ble_eq_true Z) Z ?_))
 intro jv bg
 refine wpo_nil (Y1 (Xr (Xa (wpo_loadn (vs := [vi ap, vi ab, vb (decide (0 < O)), vb (decide (E = 0)), vb false]) Yy Z Z (bg.blk.rangeL 0 5 Z) Z (wpo_storen (vs := [vi ap, vi ab, vb (decide (0 < O)), vb (decide (E = 0)), vb false]) (cs' := #[vi ap, vi ab, vb (decide (0 < O)), vb (decide (E = 0)), vb false]) Yy Z Z Z (by simp [Value.oneCell']) (((ej.grown0 aj.grw).gn bl).gn bg.grw) (Nat.le_of_ble_eq_true Z) Z ?_)))))
 intro jw bv
 refine wpo_nil (Xk ?_)
 refine ⟨.agg #[vi ap, vi ab, vb (decide (0 < O)), vb (decide (E = 0)), vb false], resC Z (resCell_mk (vs := [vi ap, vi ab, vb (decide (0 < O)), vb (decide (E = 0)), vb false]) Yy Z Z (bv.blk.rangeL 0 5 Z)), ⟨ap, ab, decide (0 < O), decide (E = 0), false⟩, (p + 1 + 1 + 1 + 1 + 1 + 1 + 1), Z, show (-1 : Int) ≤ ap by omega, show ap ≤ (9 : Int) by omega, show (-1 : Int) ≤ ab by omega, show ab ≤ (9 : Int) by omega, by omega, by omega, ((fh.gn bg.grw).gn bv.grw), (low1 (low1 (Xe dh bl) bg.grw (by omega)) bv.grw (by omega))⟩
 have iz := of_decide_eq_false cn
 refine Xa (wpo_eql (q := decide (ba = 2)) Z Z Z Z (wpo_assign (v := vb (decide (ba = 2))) Z Z (wpo_nil (Xs Z (fun co => ?_) (fun co => ?_)))))
 have i0 := of_decide_eq_true co
 refine Xo (wpo_buildSlice (ps := [(0, vi (-1)), (1, vi 5), (2, vi 6)]) (e := 3) (cs := (([(-1), 5, 6] : List Int).flatMap icell).toArray) (Xm Z (Xm Z (Xm Z Xv))) (fun _ => by kernel_rfl) Z ?_)
 intro ik jy ak
 have gb := Xy ak av
 have ft := Xn ak (a8).lt
 have eu := (((ar.grown0 af.grw).gn ac.grw).gn am)
 have d8 := Xn ak (eu).lt
 have ew := (ac.blk.gn am)
 have ee := Xn ak (ew).lt
 have di := low0 av ak.grw
 refine wpo_move (v := pt R 0) Z Z (Xg Y7 (Xb Z (Xb Z Xf)) Z (Yi (p + 1 + 1 + 1 + 1 + 1 + 1) 3 (by omega) _ R bs _ _ _ (a8.grown0 ak.grw) (by omega) (SlLt.low1 hs di hlo) (by first | exact hb | exact fun b h => hb b (List.mem_of_mem_take h)) (by first | omega | (rw [List.length_take]; omega))) ?_)
 rintro _ jz ⟨dx, rfl, ia, ib, fi, bm⟩
 refine wpo_indexAddr (o' := (dx).toNat * 1) Kx Z Z (by omega) (by omega) (by omega) Z ?_
 obtain ⟨aq, dt⟩ := Qo (l := ([(-1), 5, 6] : List Int)) (i := (dx).toNat) (lq (dx).toNat 3)
 have fa := List.mem_of_getElem? dt
 simp only [List.mem_cons, List.not_mem_nil, or_false] at fa
 refine wpo_load1 (v := vi aq) X0 Z ((Ji Yc (ak.blk.gn bm) dt) 0 _ Z) Z (wpo_fieldAddr (o' := 1) J2 Z Z Z (wpo_store1 (v := vi aq) (cs' := #[vi (1 + V), vi aq, vb (decide (0 < O)), vb (decide (E = 0)), vb false]) X0 Z Z Z ((ew.grown0 ak.grw).gn bm) (Nat.le_of_ble_eq_true Z) Z ?_))
 intro j1 bh
 refine wpo_nil (Y1 (Xr (Xa (wpo_loadn (vs := [vi (1 + V), vi aq, vb (decide (0 < O)), vb (decide (E = 0)), vb false]) Yy Z Z (bh.blk.rangeL 0 5 Z) Z (wpo_storen (vs := [vi (1 + V), vi aq, vb (decide (0 < O)), vb (decide (E = 0)), vb false]) (cs' := #[vi (1 + V), vi aq, vb (decide (0 < O)), vb (decide (E = 0)), vb false]) Yy Z Z Z (by simp [Value.oneCell']) (((eu.grown0 ak.grw).gn bm).gn bh.grw) (Nat.le_of_ble_eq_true Z) Z ?_)))))
 intro j2 bw
 refine wpo_nil (Xk ?_)
 refine ⟨.agg #[vi (1 + V), vi aq, vb (decide (0 < O)), vb (decide (E = 0)), vb false], resC Z (resCell_mk (vs := [vi (1 + V), vi aq, vb (decide (0 < O)), vb (decide (E = 0)), vb false]) Yy Z Z (bw.blk.rangeL 0 5 Z)), ⟨1 + V, aq, decide (0 < O), decide (E = 0), false⟩, (p + 1 + 1 + 1 + 1 + 1 + 1 + 1), Z, show (-1 : Int) ≤ 1 + V by omega, show 1 + V ≤ (9 : Int) by omega, show (-1 : Int) ≤ aq by omega, show aq ≤ (9 : Int) by omega, by omega, by omega, ((fi.gn bh.grw).gn bw.grw), (low1 (low1 (Xe di bm) bh.grw (by omega)) bw.grw (by omega))⟩
 have i1 := of_decide_eq_false co
 refine Xl (Y1 (Xr (Xa (wpo_loadn (vs := [vi (1 + V), vi ab, vb (decide (0 < O)), vb (decide (E = 0)), vb false]) Yy Z Z ((ac.blk.gn am).rangeL 0 5 Z) Z (wpo_storen (vs := [vi (1 + V), vi ab, vb (decide (0 < O)), vb (decide (E = 0)), vb false]) (cs' := #[vi (1 + V), vi ab, vb (decide (0 < O)), vb (decide (E = 0)), vb false]) Yy Z Z Z (by simp [Value.oneCell']) (((ar.grown0 af.grw).gn ac.grw).gn am) (Nat.le_of_ble_eq_true Z) Z ?_)))))
 intro j3 bz
 refine wpo_nil (Xk ?_)
 refine ⟨.agg #[vi (1 + V), vi ab, vb (decide (0 < O)), vb (decide (E = 0)), vb false], resC Z (resCell_mk (vs := [vi (1 + V), vi ab, vb (decide (0 < O)), vb (decide (E = 0)), vb false]) Yy Z Z (bz.blk.rangeL 0 5 Z)), ⟨1 + V, ab, decide (0 < O), decide (E = 0), false⟩, (p + 1 + 1 + 1 + 1 + 1 + 1), Z, show (-1 : Int) ≤ 1 + V by omega, show 1 + V ≤ (9 : Int) by omega, show (-1 : Int) ≤ ab by omega, show ab ≤ (9 : Int) by omega, by omega, by omega, (a8.gn bz.grw), (low1 av bz.grw (by omega))⟩
theorem M4 [Comp] (bs : List Int) (a : Option Addr) (c : Nat) (w : World) (hn : bs.length ≤ 1048576) (hc : bs.length ≤ c) : CallsR Try.prog 34 #[.slice a bs.length c] w (fun v w' => ∃ R : Nat, v = pt R 0 ∧ w.heap.size ≤ R ∧ Blk w' R 97 #[.slice a (bs.take 2000).length c, vi 0] ∧ w.grownBy w' none) := by
 refine Xq (n := 11) Try.func34 Z Try.ntmps34 Z ?_
 have ae := World.grownBy.refl w none
 refine Xa (wpo_assign (v := .pointer none) Z Z (wpo_nil (Xi (Xa (wpo_move (v := .slice a bs.length c) Z Z (wpo_len (by kernel_rfl) Z Z (wpo_gtr (q := decide (2000 < (bs.length : Int))) Z Z Z Z (wpo_nil (Xs Z (fun ac => ?_) (fun ac => ?_))))))))))
 have ah := of_decide_eq_true ac
 refine Xo (wpo_move (v := .slice a bs.length c) Z Z (wpo_cut (e := 5) (sz := 1) (h := 2000) (by kernel_rfl) (by kernel_rfl) Z Z (by omega) Z (wpo_assign (v := .slice a 2000 c) Z Z (wpo_nil (Xr (Xa (wpo_move (v := .slice a 2000 c) Z Z (wpo_build (ps := [(0, .slice a 2000 c)]) (v := .agg #[.slice a 2000 c, vi 0]) (Xm Z Xv) (fun _ => by kernel_rfl) Z (wpo_box (v := .agg #[.slice a 2000 c, vi 0]) (cs := #[.slice a 2000 c, vi 0]) Z Z Z ?_)))))))))
 intro V aj E
 have af := Xy E ae
 refine wpo_assign (v := pt V 0) Z Z (wpo_nil (Xk ?_))
 have hlen : 2000 = (bs.take 2000).length := by rw [List.length_take]; omega
 have kk := E.blk
 rw [hlen] at kk
 refine ⟨pt V 0, res1 Z Z, V, Z, af, kk, (low0 ae E.grw)⟩
 have ai := of_decide_eq_false ac
 refine Xl (Xr (Xa (wpo_move (v := .slice a bs.length c) Z Z (wpo_build (ps := [(0, .slice a bs.length c)]) (v := .agg #[.slice a bs.length c, vi 0]) (Xm Z Xv) (fun _ => by kernel_rfl) Z (wpo_box (v := .agg #[.slice a bs.length c, vi 0]) (cs := #[.slice a bs.length c, vi 0]) Z Z Z ?_)))))
 intro ab ak O
 have ag := Xy O ae
 refine wpo_assign (v := pt ab 0) Z Z (wpo_nil (Xk ?_))
 have hlen : bs.length = (bs.take 2000).length := by rw [List.length_take]; omega
 have kk := O.blk
 rw [hlen] at kk
 refine ⟨pt ab 0, res1 Z Z, ab, Z, ag, kk, (low0 ae O.grw)⟩
end Go.Dw.J
end
section
namespace Go.Dw.J
open Go.RowKit Go.Dw Go.Proofs
set_option linter.unusedSectionVars false
set_option maxRecDepth 100000
set_option maxHeartbeats 4000000
set_option linter.unusedSimpArgs false
set_option linter.unusedVariables false
theorem Mg : arrTy Try.prog 77 = some (4, 74, 5) := by kernel_rfl
theorem X8 : fieldOff Try.prog 35 0 = some 0 := by kernel_rfl
theorem Jl : fieldOff Try.prog 35 1 = some 1 := by kernel_rfl
theorem Q2 : fieldOff Try.prog 35 2 = some 3 := by kernel_rfl
theorem Jg : fieldOff Try.prog 35 3 = some 4 := by kernel_rfl
theorem Y4 : fieldOff Try.prog 35 4 = some 5 := by kernel_rfl
theorem Qt : fieldOff Try.prog 35 5 = some 6 := by kernel_rfl
theorem Jm : fieldOff Try.prog 35 6 = some 7 := by kernel_rfl
theorem Vv : goFn Try.prog 50 = true := by kernel_rfl
theorem F4 : goFn Try.prog 51 = true := by kernel_rfl
theorem F5 : goFn Try.prog 52 = true := by kernel_rfl
theorem F6 : goFn Try.prog 53 = true := by kernel_rfl
theorem F7 : goFn Try.prog 54 = true := by kernel_rfl
theorem F8 : goFn Try.prog 55 = true := by kernel_rfl
theorem D5 : goFn Try.prog 94 = true := by kernel_rfl
theorem Ha : goFn Try.prog 95 = true := by kernel_rfl
theorem Ic : goFn Try.prog 97 = true := by kernel_rfl
theorem Je : oneTy Try.prog 32 = true := by kernel_rfl
theorem J0 : oneTy Try.prog 33 = true := by kernel_rfl
theorem Xw : rowTy Try.prog 35 = some 8 := by kernel_rfl
theorem Ij : rowTy Try.prog 77 = some 20 := by kernel_rfl
theorem B8 [Comp] (m : MTh) (w : World) : CallsR Try.prog 51 #[.agg #[vi m.t.kind, vi m.t.lab.s, vi m.t.lab.v, vi m.t.ve, vi m.t.num, .slice m.sa m.t.slots.length m.sc, .slice m.qa m.t.queue.length m.qc, vi m.t.to]] w (fun v w' => v = vb (versOk m.t) ∧ w.grownBy w' none) := by
 refine Xq (n := 15) Try.func51 Z Try.ntmps51 Z ?_
 have an := World.grownBy.refl w none
 refine Xa (wpo_box (v := .agg #[vi m.t.kind, vi m.t.lab.s, vi m.t.lab.v, vi m.t.ve, vi m.t.num, .slice m.sa m.t.slots.length m.sc, .slice m.qa m.t.queue.length m.qc, vi m.t.to]) (cs := #[vi m.t.kind, vi m.t.lab.s, vi m.t.lab.v, vi m.t.ve, vi m.t.num, .slice m.sa m.t.slots.length m.sc, .slice m.qa m.t.queue.length m.qc, vi m.t.to]) Z Z Z ?_)
 intro ap aq E
 have ao := Xy E an
 have ab := low0 an E.grw
 refine wpo_assign (v := vb false) Z Z (wpo_nil (Xi (Xa (wpo_fieldAddr (o' := 0) X8 Z Z Z (wpo_load1 (v := vi m.t.kind) X0 Z (E.blk.cell Z) Z (wpo_nil (Xu (Xi (Xa (wpo_eql (q := decide (m.t.kind = 1)) Z Z Z Z (wpo_assign (v := vb (decide (m.t.kind = 1))) Z Z (wpo_nil ?_))))))))))))
 refine Xs Z (fun ac => ?_) (fun ac => ?_)
 have af := of_decide_eq_true ac
 refine Xl (Xr (X4 Z ac (Xa (wpo_fieldAddr (o' := 3) Q2 Z Z Z (wpo_load1 (v := vi m.t.ve) X0 Z (E.blk.cell Z) Z (Xg Vv (Xb Z (Xb Z (Xb Z Xf))) Z (Jc m.t.ve 0 5 _) ?_))))))
 rintro _ ar ⟨rfl, ak⟩
 refine wpo_assign (v := vb (inR m.t.ve 0 5)) Z Z (wpo_nil (Xk (Qh (X9 (⟨vb (inR m.t.ve 0 5), res1 Z Z, ?_, (low0 ab ak)⟩)))))
 · first | (simp [versOk, af]; done) | (simp [versOk, af]; omega) | (simp [versOk, af]; intros; omega)
 have O := of_decide_eq_false ac
 refine Xa (wpo_eql (q := decide (m.t.kind = 2)) Z Z Z Z (wpo_assign (v := vb (decide (m.t.kind = 2))) Z Z (wpo_nil (Xs Z (fun ae => ?_) (fun ae => ?_)))))
 have ag := of_decide_eq_true ae
 refine Xl (Xr (X4 Z ae (Xa (wpo_fieldAddr (o' := 3) Q2 Z Z Z (wpo_load1 (v := vi m.t.ve) X0 Z (E.blk.cell Z) Z (Xg Vv (Xb Z (Xb Z (Xb Z Xf))) Z (Jc m.t.ve 0 5 _) ?_))))))
 rintro _ as ⟨rfl, al⟩
 refine wpo_assign (v := vb (inR m.t.ve 0 5)) Z Z (wpo_nil (Xk (Qh (X9 (⟨vb (inR m.t.ve 0 5), res1 Z Z, ?_, (low0 ab al)⟩)))))
 · first | (simp [versOk, O, ag]; done) | (simp [versOk, O, ag]; omega) | (simp [versOk, O, ag]; intros; omega)
 have V := of_decide_eq_false ae
 refine Xo (wpo_eql (q := decide (m.t.kind = 4)) Z Z Z Z (wpo_assign (v := vb (decide (m.t.kind = 4))) Z Z (wpo_nil (Xr (Xs Z (fun ah => ?_) (fun ah => ?_))))))
 have ai := of_decide_eq_true ah
 refine Xa (wpo_fieldAddr (o' := 3) Q2 Z Z Z (wpo_load1 (v := vi m.t.ve) X0 Z (E.blk.cell Z) Z (Xg Vv (Xb Z (Xb Z (Xb Z Xf))) Z (Jc m.t.ve 0 5 _) ?_)))
 rintro _ au ⟨rfl, am⟩
 refine wpo_assign (v := vb (inR m.t.ve 0 5)) Z Z (wpo_nil (Xk (Qh (X9 (⟨vb (inR m.t.ve 0 5), res1 Z Z, ?_, (low0 ab am)⟩)))))
 · first | (simp [versOk, O, V, ai]; done) | (simp [versOk, O, V, ai]; omega) | (simp [versOk, O, V, ai]; intros; omega)
 have aj := of_decide_eq_false ah
 refine Xl (Y1 (Xr (Xa (wpo_fieldAddr (o' := 3) Q2 Z Z Z (wpo_load1 (v := vi m.t.ve) X0 Z (E.blk.cell Z) Z (wpo_eql (q := decide (m.t.ve = 0)) Z Z Z Z (wpo_assign (v := vb (decide (m.t.ve = 0))) Z Z (wpo_nil (Xk (⟨vb (decide (m.t.ve = 0)), res1 Z Z, ?_, ab⟩))))))))))
 · first | (simp [versOk, O, V, aj]; done) | (simp [versOk, O, V, aj]; omega) | (simp [versOk, O, V, aj]; intros; omega)
theorem Cz [Comp] (m : MTh) (w : World) : CallsR Try.prog 52 #[.agg #[vi m.t.kind, vi m.t.lab.s, vi m.t.lab.v, vi m.t.ve, vi m.t.num, .slice m.sa m.t.slots.length m.sc, .slice m.qa m.t.queue.length m.qc, vi m.t.to]] w (fun v w' => v = vb (numOk m.t) ∧ w.grownBy w' none) := by
 refine Xq (n := 19) Try.func52 Z Try.ntmps52 Z ?_
 have an := World.grownBy.refl w none
 refine Xa (wpo_box (v := .agg #[vi m.t.kind, vi m.t.lab.s, vi m.t.lab.v, vi m.t.ve, vi m.t.num, .slice m.sa m.t.slots.length m.sc, .slice m.qa m.t.queue.length m.qc, vi m.t.to]) (cs := #[vi m.t.kind, vi m.t.lab.s, vi m.t.lab.v, vi m.t.ve, vi m.t.num, .slice m.sa m.t.slots.length m.sc, .slice m.qa m.t.queue.length m.qc, vi m.t.to]) Z Z Z ?_)
 intro ap aq E
 have ao := Xy E an
 have ab := low0 an E.grw
 refine wpo_assign (v := vb false) Z Z (wpo_nil (Xi (Xa (wpo_fieldAddr (o' := 0) X8 Z Z Z (wpo_load1 (v := vi m.t.kind) X0 Z (E.blk.cell Z) Z (wpo_nil (Xu (Xi (Xa (wpo_eql (q := decide (m.t.kind = 1)) Z Z Z Z (wpo_assign (v := vb (decide (m.t.kind = 1))) Z Z (wpo_nil ?_))))))))))))
 refine Xs Z (fun ac => ?_) (fun ac => ?_)
 have ae := of_decide_eq_true ac
 refine Xl (Xr (X4 Z ac (Xa (wpo_fieldAddr (o' := 4) Jg Z Z Z (wpo_load1 (v := vi m.t.num) X0 Z (E.blk.cell Z) Z (Xg Vv (Xb Z (Xb Z (Xb Z Xf))) Z (Jc m.t.num 0 99 _) ?_))))))
 rintro _ ar ⟨rfl, ak⟩
 refine wpo_assign (v := vb (inR m.t.num 0 99)) Z Z (wpo_nil (Xk (Qh (X9 (⟨vb (inR m.t.num 0 99), res1 Z Z, ?_, (low0 ab ak)⟩)))))
 · first | (simp [numOk, ae]; done) | (simp [numOk, ae]; omega) | (simp [numOk, ae]; intros; omega)
 have O := of_decide_eq_false ac
 refine Xo (wpo_eql (q := decide (m.t.kind = 5)) Z Z Z Z (wpo_assign (v := vb (decide (m.t.kind = 5))) Z Z (wpo_nil (Xr (Xs Z (fun af => ?_) (fun af => ?_))))))
 have ag := of_decide_eq_true af
 refine Xa (wpo_fieldAddr (o' := 4) Jg Z Z Z (wpo_load1 (v := vi m.t.num) X0 Z (E.blk.cell Z) Z (Xg Vv (Xb Z (Xb Z (Xb Z Xf))) Z (Jc m.t.num 0 99 _) ?_)))
 rintro _ as ⟨rfl, al⟩
 refine wpo_assign (v := vb (inR m.t.num 0 99)) Z Z (wpo_nil (Xk (Qh (X9 (⟨vb (inR m.t.num 0 99), res1 Z Z, ?_, (low0 ab al)⟩)))))
 · first | (simp [numOk, O, ag]; done) | (simp [numOk, O, ag]; omega) | (simp [numOk, O, ag]; intros; omega)
 have V := of_decide_eq_false af
 refine Xa (wpo_eql (q := decide (m.t.kind = 3)) Z Z Z Z (wpo_assign (v := vb (decide (m.t.kind = 3))) Z Z (wpo_nil (Xs Z (fun ah => ?_) (fun ah => ?_)))))
 have ai := of_decide_eq_true ah
 refine Xa (wpo_fieldAddr (o' := 4) Jg Z Z Z (wpo_load1 (v := vi m.t.num) X0 Z (E.blk.cell Z) Z (Xg Vv (Xb Z (Xb Z (Xb Z Xf))) Z (Jc m.t.num (-4) 99 _) ?_)))
 rintro _ au ⟨rfl, am⟩
 refine wpo_assign (v := vb (inR m.t.num (-4) 99)) Z Z (wpo_nil (Xk (Qh (X9 (⟨vb (inR m.t.num (-4) 99), res1 Z Z, ?_, (low0 ab am)⟩)))))
 · first | (simp [numOk, O, V, ai]; done) | (simp [numOk, O, V, ai]; omega) | (simp [numOk, O, V, ai]; intros; omega)
 have aj := of_decide_eq_false ah
 refine Xl (Y1 (Xr (Xa (wpo_fieldAddr (o' := 4) Jg Z Z Z (wpo_load1 (v := vi m.t.num) X0 Z (E.blk.cell Z) Z (wpo_eql (q := decide (m.t.num = 0)) Z Z Z Z (wpo_assign (v := vb (decide (m.t.num = 0))) Z Z (wpo_nil (Xk (⟨vb (decide (m.t.num = 0)), res1 Z Z, ?_, ab⟩))))))))))
 · first | (simp [numOk, O, V, aj]; done) | (simp [numOk, O, V, aj]; omega) | (simp [numOk, O, V, aj]; intros; omega)
theorem R5 [Comp] (m : MTh) (w : World) : CallsR Try.prog 55 #[.agg #[vi m.t.kind, vi m.t.lab.s, vi m.t.lab.v, vi m.t.ve, vi m.t.num, .slice m.sa m.t.slots.length m.sc, .slice m.qa m.t.queue.length m.qc, vi m.t.to]] w (fun v w' => v = vb (targetOk m.t) ∧ w.grownBy w' none) := by
 refine Xq (n := 12) Try.func55 Z Try.ntmps55 Z ?_
 have af := World.grownBy.refl w none
 refine Xa (wpo_box (v := .agg #[vi m.t.kind, vi m.t.lab.s, vi m.t.lab.v, vi m.t.ve, vi m.t.num, .slice m.sa m.t.slots.length m.sc, .slice m.qa m.t.queue.length m.qc, vi m.t.to]) (cs := #[vi m.t.kind, vi m.t.lab.s, vi m.t.lab.v, vi m.t.ve, vi m.t.num, .slice m.sa m.t.slots.length m.sc, .slice m.qa m.t.queue.length m.qc, vi m.t.to]) Z Z Z ?_)
 intro ah ai E
 have ag := Xy E af
 have ac := low0 af E.grw
 refine wpo_assign (v := vb false) Z Z (wpo_nil (Xi (Xa (wpo_fieldAddr (o' := 0) X8 Z Z Z (wpo_load1 (v := vi m.t.kind) X0 Z (E.blk.cell Z) Z (wpo_eql (q := decide (m.t.kind = 5)) Z Z Z Z (wpo_nil (Xs Z (fun O => ?_) (fun O => ?_)))))))))
 have V := of_decide_eq_true O
 refine Xa (wpo_fieldAddr (o' := 7) Jm Z Z Z (wpo_load1 (v := vi m.t.to) X0 Z (E.blk.cell Z) Z (Xg Vv (Xb Z (Xb Z (Xb Z Xf))) Z (Jc m.t.to 1 8 _) ?_)))
 rintro _ aj ⟨rfl, ae⟩
 refine wpo_assign (v := vb (inR m.t.to 1 8)) Z Z (wpo_nil (Xk (X9 (⟨vb (inR m.t.to 1 8), res1 Z Z, ?_, (low0 ac ae)⟩))))
 · first | (simp [targetOk, V]; done) | (simp [targetOk, V]; omega) | (simp [targetOk, V]; intros; omega)
 have ab := of_decide_eq_false O
 refine Xl (Xr (Xa (wpo_fieldAddr (o' := 7) Jm Z Z Z (wpo_load1 (v := vi m.t.to) X0 Z (E.blk.cell Z) Z (wpo_eql (q := decide (m.t.to = 0)) Z Z Z Z (wpo_assign (v := vb (decide (m.t.to = 0))) Z Z (wpo_nil (Xk (⟨vb (decide (m.t.to = 0)), res1 Z Z, ?_, ac⟩)))))))))
 · first | (simp [targetOk, ab]; done) | (simp [targetOk, ab]; omega) | (simp [targetOk, ab]; intros; omega)
theorem Tp [Comp] (m : MTh) (w : World) (hs : SlAt w m.sa 5 (m.t.slots.map Rt.cells)) (hq : SlAt w m.qa 1 (m.t.queue.map icell)) (hsl : m.t.slots.length ≤ 9223372036854775806) (hql : m.t.queue.length ≤ 9223372036854775806) : CallsR Try.prog 54 #[.agg #[vi m.t.kind, vi m.t.lab.s, vi m.t.lab.v, vi m.t.ve, vi m.t.num, .slice m.sa m.t.slots.length m.sc, .slice m.qa m.t.queue.length m.qc, vi m.t.to]] w (fun v w' => v = vb (queueOk m.t) ∧ w.grownBy w' none) := by
 refine Xq (n := 27) Try.func54 Z Try.ntmps54 Z ?_
 have bc := World.grownBy.refl w none
 refine Xa (wpo_box (v := .agg #[vi m.t.kind, vi m.t.lab.s, vi m.t.lab.v, vi m.t.ve, vi m.t.num, .slice m.sa m.t.slots.length m.sc, .slice m.qa m.t.queue.length m.qc, vi m.t.to]) (cs := #[vi m.t.kind, vi m.t.lab.s, vi m.t.lab.v, vi m.t.ve, vi m.t.num, .slice m.sa m.t.slots.length m.sc, .slice m.qa m.t.queue.length m.qc, vi m.t.to]) Z Z Z ?_)
 intro bf bk E
 have bd := Xy E bc
 have ab := low0 bc E.grw
 refine wpo_assign (v := vb false) Z Z (wpo_nil (Xi (Xa (wpo_fieldAddr (o' := 0) X8 Z Z Z (wpo_load1 (v := vi m.t.kind) X0 Z (E.blk.cell Z) Z (wpo_neq (q := !(decide (m.t.kind = 4))) Z Z Z Z (wpo_nil (Xs Z (fun ag => ?_) (fun ag => ?_)))))))))
 have av := Jd ag
 have ah := of_decide_eq_false av
 refine Xa (wpo_fieldAddr (o' := 6) Qt Z Z Z (wpo_load1 (v := .slice m.qa m.t.queue.length m.qc) J0 Z (E.blk.cell Z) Z (wpo_len (by kernel_rfl) Z Z (wpo_eql (q := decide ((m.t.queue.length : Int) = 0)) Z Z Z Z (wpo_assign (v := vb (decide ((m.t.queue.length : Int) = 0))) Z Z (wpo_nil (Xk (X9 (⟨vb (decide ((m.t.queue.length : Int) = 0)), res1 Z Z, ?_, ab⟩)))))))))
 · first | (simp [queueOk, ah]; done) | (simp [queueOk, ah]; omega) | (simp [queueOk, ah]; intros; omega)
 have aw := Qn ag
 have O := of_decide_eq_true aw
 refine Xl (Xr (Xi (Xa (wpo_fieldAddr (o' := 6) Qt Z Z Z (wpo_load1 (v := .slice m.qa m.t.queue.length m.qc) J0 Z (E.blk.cell Z) Z (wpo_len (by kernel_rfl) Z Z (wpo_gtr (q := decide (3 < (m.t.queue.length : Int))) Z Z Z Z (wpo_nil (Xs Z (fun ai => ?_) (fun ai => ?_))))))))))
 have aj := of_decide_eq_true ai
 refine Xa (wpo_assign (v := vb false) Z Z (wpo_nil (Xk (X9 (⟨vb false, res1 Z Z, ?_, ab⟩)))))
 · first | (simp [queueOk, O, aj]; done) | (simp [queueOk, O, aj]; omega) | (simp [queueOk, O, aj]; intros; omega)
 have ap := of_decide_eq_false ai
 refine Xl (Xr (Xi (Xa (wpo_fieldAddr (o' := 6) Qt Z Z Z (wpo_load1 (v := .slice m.qa m.t.queue.length m.qc) J0 Z (E.blk.cell Z) Z (wpo_len (by kernel_rfl) Z Z (wpo_move (v := vi 0) Z Z (wpo_nil (Xu (Yf (fun mm f' w' => ∃ (k : Nat), mm = m.t.queue.length - k ∧ k ≤ m.t.queue.length ∧ ((m.t.queue.take k).all numQ) = true ∧ f' 19 = vi (k : Int) ∧ f' 17 = .slice m.qa m.t.queue.length m.qc ∧ f' 18 = vi (m.t.queue.length : Int) ∧ w.grownBy w' none) (m.t.queue.length - 0) ⟨0, Z, (Nat.zero_le _), Z, Z, Z, Z, ab⟩ ?_))))))))))
 rintro mm bh bl ⟨k, be, hk, ha, af, an, ao, ac⟩
 refine Xa (wpo_lss (q := decide ((k : Int) < (m.t.queue.length : Int))) af ao Z Z (wpo_nil (Xi (Xs Z (fun ak => ?_) (fun ak => ?_)))))
 have az := of_decide_eq_true ak
 refine Xl (Xr (Xi (Xu (Xa ?_))))
 obtain ⟨V, ae⟩ := Qo (l := m.t.queue) (i := k) (by omega)
 obtain ⟨bg, bj, bi, aq, as, au⟩ := SlAt.at hq (Yk ae)
 refine Xx Kx an af aq as (by omega) (by omega) Z (wpo_load1 (v := vi V) X0 Z ((Yb au ac) 0 _ Z) Z (wpo_assign (v := vi V) Z Z (wpo_nil (Xa (wpo_move (v := vi V) Z Z (Xg Vv (Xb Z (Xb Z (Xb Z Xf))) Z (Jc V 0 99 _) ?_))))))
 rintro _ bm ⟨rfl, ar⟩
 have am := low0 ac ar
 refine wpo_not (b' := !inR V 0 99) Z Z Z (wpo_nil (Xs Z (fun al => ?_) (fun al => ?_)))
 have a8 := Jd al
 refine Xa (wpo_assign (v := vb false) Z Z (wpo_nil (Xk (Qh (X9 (X9 (Qh (X9 (⟨vb false, res1 Z Z, ?_, am⟩)))))))))
 simp [queueOk, O, ap, az, Jf (p := numQ) ae a8]
 have a9 := Qn al
 exact Xl (Y1 (Xr (Xo (wpo_add (c := (k : Int) + 1) af Z (by omega) (by omega) (by omega) Z (wpo_move (v := vi ((k : Int) + 1)) Z Z (wpo_nil (Xr (⟨m.t.queue.length - (k + 1), by omega, (k + 1), Z, (by omega), (Q7 (p := numQ) ha ae a9), Z, an, ao, am⟩))))))))
 have ba := of_decide_eq_false ak
 refine Yn (Yx (Yx (Jk (Xr (Xa (wpo_assign (v := vb true) Z Z (wpo_nil (Xk (⟨vb true, res1 Z Z, ?_, ac⟩)))))))))
 simp [queueOk, O, ap, ba, Jn (p := numQ) ha (by omega)]; omega
theorem T0 [Comp] (m : MTh) (w : World) (hs : SlAt w m.sa 5 (m.t.slots.map Rt.cells)) (hq : SlAt w m.qa 1 (m.t.queue.map icell)) (hsl : m.t.slots.length ≤ 9223372036854775806) (hql : m.t.queue.length ≤ 9223372036854775806) : CallsR Try.prog 53 #[.agg #[vi m.t.kind, vi m.t.lab.s, vi m.t.lab.v, vi m.t.ve, vi m.t.num, .slice m.sa m.t.slots.length m.sc, .slice m.qa m.t.queue.length m.qc, vi m.t.to]] w (fun v w' => v = vb (slotsOk m.t) ∧ w.grownBy w' none) := by
 refine Xq (n := 32) Try.func53 Z Try.ntmps53 Z ?_
 have bg := World.grownBy.refl w none
 refine Xa (wpo_box (v := .agg #[vi m.t.kind, vi m.t.lab.s, vi m.t.lab.v, vi m.t.ve, vi m.t.num, .slice m.sa m.t.slots.length m.sc, .slice m.qa m.t.queue.length m.qc, vi m.t.to]) (cs := #[vi m.t.kind, vi m.t.lab.s, vi m.t.lab.v, vi m.t.ve, vi m.t.num, .slice m.sa m.t.slots.length m.sc, .slice m.qa m.t.queue.length m.qc, vi m.t.to]) Z Z Z ?_)
 intro av bh V
 have bi := Xy V bg
 have ac := low0 bg V.grw
 refine wpo_assign (v := vb false) Z Z (wpo_nil (Xi (Xt (fun f' w' => (f' 1 = pt av 0 ∧ f' 2 = vb false ∧ f' 12 = vb ((!(decide (m.t.kind = 2))) && (!(decide (m.t.kind = 3))))) ∧ bh = w') ?_ ?_)))
 refine wpo_fieldAddr (o' := 0) X8 Z Z Z (wpo_load1 (v := vi m.t.kind) X0 Z (V.blk.cell Z) Z (wpo_neq (q := !(decide (m.t.kind = 2))) Z Z Z Z (wpo_move (v := vb (!(decide (m.t.kind = 2)))) Z Z ?_)))
 rcases X1 (!(decide (m.t.kind = 2))) with O | O
 have ap := Jd O
 have br := of_decide_eq_false ap
 exact Xc Z Z Z O (wpo_fieldAddr (o' := 0) X8 Z Z Z (Xc Z Z Z O (wpo_load1 (v := vi m.t.kind) X0 Z (V.blk.cell Z) Z (Xc Z Z Z O (wpo_neq (q := !(decide (m.t.kind = 3))) Z Z Z Z (wpo_pickt (v := vb (!(decide (m.t.kind = 3)))) Z O Z Z (wpo_nil ⟨⟨Z, Z, (cB (by simp [O, ap]))⟩, Z⟩)))))))
 have aq := Qn O
 have bt := of_decide_eq_true aq
 iterate 3 refine Xd rfl rfl rfl O rfl ?_
 exact wpo_pickf (v := vb false) Z O Z Z (wpo_nil ⟨⟨Z, Z, (cB (by simp [O, aq]))⟩, Z⟩)
 rintro bp ce ⟨⟨ah, bn, aw⟩, rfl⟩
 refine Xs aw (fun ab => ?_) (fun ab => ?_)
 have az := Ds ab
 have a8 := Jd az
 have bu := of_decide_eq_false a8
 have a9 := Dt ab
 have ba := Jd a9
 have bv := of_decide_eq_false ba
 refine Xa (wpo_fieldAddr (o' := 5) Y4 ah Z Z (wpo_load1 (v := .slice m.sa m.t.slots.length m.sc) Je Z (V.blk.cell Z) Z (wpo_len (by kernel_rfl) Z Z (wpo_eql (q := decide ((m.t.slots.length : Int) = 0)) Z Z Z Z (wpo_assign (v := vb (decide ((m.t.slots.length : Int) = 0))) Z Z (wpo_nil (Xk (X9 (⟨vb (decide ((m.t.slots.length : Int) = 0)), res1 Z Z, ?_, ac⟩)))))))))
 rw [T1 ab]
 refine Xl (Xr (Xi (Xa (wpo_fieldAddr (o' := 5) Y4 ah Z Z (wpo_load1 (v := .slice m.sa m.t.slots.length m.sc) Je Z (V.blk.cell Z) Z (wpo_len (by kernel_rfl) Z Z (wpo_neq (q := !(decide ((m.t.slots.length : Int) = 4))) Z Z Z Z (wpo_nil (Xs Z (fun aj => ?_) (fun aj => ?_))))))))))
 have bc := Jd aj
 have bw := of_decide_eq_false bc
 refine Xa (wpo_assign (v := vb false) Z Z (wpo_nil (Xk (X9 (⟨vb false, res1 Z Z, ?_, ac⟩)))))
 rw [W6 ab]
 rw [decide_eq_false (by omega)]; rfl
 have bd := Qn aj
 have bz := of_decide_eq_true bd
 refine Xl (Xr (Xi (Xa (wpo_fieldAddr (o' := 5) Y4 ah Z Z (wpo_load1 (v := .slice m.sa m.t.slots.length m.sc) Je Z (V.blk.cell Z) Z ?_)))))
 obtain ⟨bm, cd, ar, au⟩ := SlAt.all Y6 (by omega) (SlAt.low hs ac) (by omega)
 refine wpo_s2a Mg Z ar (by omega) Z (wpo_loadn (vs := m.t.slots.flatMap Rt.cells) Ij Z (by rw [Qm Y6]; omega) au Z (wpo_move (v := vi 0) Z Z (wpo_nil (Xu (Yf (fun mm f' w' => ∃ (k : Nat), mm = m.t.slots.length - k ∧ k ≤ m.t.slots.length ∧ ((m.t.slots.take k).all rightOk) = true ∧ f' 25 = vi (k : Int) ∧ f' 24 = .agg (m.t.slots.flatMap Rt.cells).toArray ∧ w.grownBy w' none) (m.t.slots.length - 0) ⟨0, Z, (Nat.zero_le _), Z, Z, Z, ac⟩ ?_)))))
 rintro mm bq cg ⟨k, bk, hk, ha, ai, ao, af⟩
 refine Xa (wpo_lss (q := decide ((k : Int) < 4)) ai Z Z Z (wpo_nil (Xi (Xs Z (fun ak => ?_) (fun ak => ?_)))))
 have ca := of_decide_eq_true ak
 refine Xl (Xr (Xi (Xu (Xa ?_))))
 obtain ⟨E, ag⟩ := Qo (l := m.t.slots) (i := k) (by omega)
 refine wpo_indexArr (g := Rt.cells) (z := E) Mg Yy Y6 ao ai (by omega) (by omega) ag Z (wpo_alloc (cs := #[vi 0, vi 0, vb false, vb false, vb false]) Hw Z Z ?_)
 intro bl cj ae
 have bj := Xy ae af
 refine wpo_storen (vs := [vi E.th, vi E.ve, vb E.rd, vb E.wr, vb E.wk]) (cs' := #[vi E.th, vi E.ve, vb E.rd, vb E.wr, vb E.wk]) Yy Z Z Z (by simp [Value.oneCell']) ae.blk (Nat.le_of_ble_eq_true Z) Z ?_
 intro ck am
 refine wpo_nil (Xa (wpo_loadn (vs := [vi E.th, vi E.ve, vb E.rd, vb E.wr, vb E.wk]) Yy Z Z (am.blk.rangeL 0 5 Z) Z (Xg Ic (Xb Z Xf) Z (Sr E _) ?_)))
 rintro _ cl ⟨rfl, as⟩
 have an := low0 (low1 (low0 af ae.grw) am.grw (by omega)) as
 refine wpo_not (b' := !rightOk E) Z Z Z (wpo_nil (Xs Z (fun al => ?_) (fun al => ?_)))
 have be := Jd al
 refine Xa (wpo_assign (v := vb false) Z Z (wpo_nil (Xk (Qh (X9 (X9 (Qh (X9 (⟨vb false, res1 Z Z, ?_, an⟩)))))))))
 rw [W6 ab]
 simp [Jf (p := rightOk) ag be]
 have bf := Qn al
 exact Xl (Y1 (Xr (Xo (wpo_add (c := (k : Int) + 1) ai Z (by omega) (by omega) (by omega) Z (wpo_move (v := vi ((k : Int) + 1)) Z Z (wpo_nil (Xr (⟨m.t.slots.length - (k + 1), by omega, (k + 1), Z, (by omega), (Q7 (p := rightOk) ha ag bf), Z, ao, an⟩))))))))
 have cc := of_decide_eq_false ak
 refine Yn (Yx (Yx (Jk (Xr (Xa (wpo_assign (v := vb true) Z Z (wpo_nil (Xk (⟨vb true, res1 Z Z, ?_, af⟩)))))))))
 rw [W6 ab]
 rw [Jn (p := rightOk) ha (by omega), decide_eq_true (by omega)]; rfl
theorem K4 [Comp] (m : MTh) (w : World) (hs : SlAt w m.sa 5 (m.t.slots.map Rt.cells)) (hq : SlAt w m.qa 1 (m.t.queue.map icell)) (hsl : m.t.slots.length ≤ 9223372036854775806) (hql : m.t.queue.length ≤ 9223372036854775806) : CallsR Try.prog 20 #[.agg #[vi m.t.kind, vi m.t.lab.s, vi m.t.lab.v, vi m.t.ve, vi m.t.num, .slice m.sa m.t.slots.length m.sc, .slice m.qa m.t.queue.length m.qc, vi m.t.to]] w (fun v w' => v = vb (thingOk m.t) ∧ w.grownBy w' none) := by
 refine Xq (n := 31) Try.func20 Z Try.ntmps20 Z ?_
 have a8 := World.grownBy.refl w none
 refine Xa (wpo_box (v := .agg #[vi m.t.kind, vi m.t.lab.s, vi m.t.lab.v, vi m.t.ve, vi m.t.num, .slice m.sa m.t.slots.length m.sc, .slice m.qa m.t.queue.length m.qc, vi m.t.to]) (cs := #[vi m.t.kind, vi m.t.lab.s, vi m.t.lab.v, vi m.t.ve, vi m.t.num, .slice m.sa m.t.slots.length m.sc, .slice m.qa m.t.queue.length m.qc, vi m.t.to]) Z Z Z ?_)
 intro bc a9 ak
 have ba := Xy ak a8
 have an := low0 a8 ak.grw
 refine wpo_assign (v := vb false) Z Z (wpo_nil (Xt (fun f' w' => (f' 2 = vb ((((((inR m.t.kind 1 5 && labelOk m.t.lab) && versOk m.t) && numOk m.t) && slotsOk m.t) && queueOk m.t) && targetOk m.t)) ∧ a9.grownBy w' none) ?_ ?_))
 refine wpo_fieldAddr (o' := 0) X8 Z Z Z (wpo_load1 (v := vi m.t.kind) X0 Z (ak.blk.cell Z) Z (Xg Vv (Xb Z (Xb Z (Xb Z Xf))) Z (Jc m.t.kind 1 5 _) ?_))
 rintro _ be ⟨rfl, V⟩
 refine wpo_move (v := vb (inR m.t.kind 1 5)) Z Z ?_
 rcases X1 (inR m.t.kind 1 5) with E | E
 refine Xc Z Z Z E (wpo_fieldAddr (o' := 1) Jl Z Z Z (Xc Z Z Z E ?_))
 have ap := (ak.blk.grown0 V)
 refine wpo_loadn (vs := [vi m.t.lab.s, vi m.t.lab.v]) Yu Z Z (ap.rangeL 1 2 Z) Z (Xc Z Z Z E (Xg Mv (Xb Z Xf) Z (V8 m.t.lab _) ?_))
 rintro _ bf ⟨rfl, ae⟩
 refine wpo_pickt (v := vb (labelOk m.t.lab)) Z E Z Z (wpo_move (v := vb (labelOk m.t.lab)) Z Z ?_)
 rcases X1 (labelOk m.t.lab) with O | O
 refine Xc Z Z Z O ?_
 have aq := (ap.grown0 ae)
 refine wpo_loadn (vs := [vi m.t.kind, vi m.t.lab.s, vi m.t.lab.v, vi m.t.ve, vi m.t.num, .slice m.sa m.t.slots.length m.sc, .slice m.qa m.t.queue.length m.qc, vi m.t.to]) Xw Z Z (aq.rangeL 0 8 Z) Z (Xc Z Z Z O (Xg F4 (Xb Z Xf) Z (B8 m _) ?_))
 rintro _ bg ⟨rfl, ag⟩
 refine wpo_pickt (v := vb (versOk m.t)) Z O Z Z (wpo_move (v := vb (versOk m.t)) Z Z ?_)
 rcases X1 (versOk m.t) with ab | ab
 refine Xc Z Z Z ab ?_
 have ar := (aq.grown0 ag)
 refine wpo_loadn (vs := [vi m.t.kind, vi m.t.lab.s, vi m.t.lab.v, vi m.t.ve, vi m.t.num, .slice m.sa m.t.slots.length m.sc, .slice m.qa m.t.queue.length m.qc, vi m.t.to]) Xw Z Z (ar.rangeL 0 8 Z) Z (Xc Z Z Z ab (Xg F5 (Xb Z Xf) Z (Cz m _) ?_))
 rintro _ bh ⟨rfl, ai⟩
 have al := low0 (low0 (low0 (low0 an V) ae) ag) ai
 refine wpo_pickt (v := vb (numOk m.t)) Z ab Z Z (wpo_move (v := vb (numOk m.t)) Z Z ?_)
 rcases X1 (numOk m.t) with ac | ac
 refine Xc Z Z Z ac ?_
 have as := (ar.grown0 ai)
 refine wpo_loadn (vs := [vi m.t.kind, vi m.t.lab.s, vi m.t.lab.v, vi m.t.ve, vi m.t.num, .slice m.sa m.t.slots.length m.sc, .slice m.qa m.t.queue.length m.qc, vi m.t.to]) Xw Z Z (as.rangeL 0 8 Z) Z (Xc Z Z Z ac (Xg F6 (Xb Z Xf) Z (T0 m _ (SlAt.low hs al) (SlAt.low hq al) (by first | omega | exact Nat.le_of_ble_eq_true rfl | (simp only [List.length_nil, List.length_cons, List.length_append, List.length_replicate]; omega)) (by first | omega | exact Nat.le_of_ble_eq_true rfl | (simp only [List.length_nil, List.length_cons, List.length_append, List.length_replicate]; omega))) ?_))
 rintro _ bi ⟨rfl, aj⟩
 have ao := low0 al aj
 refine wpo_pickt (v := vb (slotsOk m.t)) Z ac Z Z (wpo_move (v := vb (slotsOk m.t)) Z Z ?_)
 rcases X1 (slotsOk m.t) with af | af
 refine Xc Z Z Z af ?_
 have au := (as.grown0 aj)
 refine wpo_loadn (vs := [vi m.t.kind, vi m.t.lab.s, vi m.t.lab.v, vi m.t.ve, vi m.t.num, .slice m.sa m.t.slots.length m.sc, .slice m.qa m.t.queue.length m.qc, vi m.t.to]) Xw Z Z (au.rangeL 0 8 Z) Z (Xc Z Z Z af (Xg F7 (Xb Z Xf) Z (Tp m _ (SlAt.low hs ao) (SlAt.low hq ao) (by first | omega | exact Nat.le_of_ble_eq_true rfl | (simp only [List.length_nil, List.length_cons, List.length_append, List.length_replicate]; omega)) (by first | omega | exact Nat.le_of_ble_eq_true rfl | (simp only [List.length_nil, List.length_cons, List.length_append, List.length_replicate]; omega))) ?_))
 rintro _ bj ⟨rfl, am⟩
 refine wpo_pickt (v := vb (queueOk m.t)) Z af Z Z (wpo_move (v := vb (queueOk m.t)) Z Z ?_)
 rcases X1 (queueOk m.t) with ah | ah
 refine Xc Z Z Z ah (wpo_loadn (vs := [vi m.t.kind, vi m.t.lab.s, vi m.t.lab.v, vi m.t.ve, vi m.t.num, .slice m.sa m.t.slots.length m.sc, .slice m.qa m.t.queue.length m.qc, vi m.t.to]) Xw Z Z ((au.grown0 am).rangeL 0 8 Z) Z (Xc Z Z Z ah (Xg F8 (Xb Z Xf) Z (R5 m _) ?_)))
 rintro _ bk ⟨rfl, av⟩
 exact wpo_pickt (v := vb (targetOk m.t)) Z ah Z Z (wpo_assign (v := vb (targetOk m.t)) Z Z (wpo_nil ⟨(cB (by simp [E, O, ab, ac, af, ah])), (Xe (Xe (Xe (Xe (Xe (Xe V ae) ag) ai) aj) am) av)⟩))
 exact Xd Z Z Z ah Z (Xd Z Z Z ah Z (wpo_pickf (v := vb false) Z ah Z Z (wpo_assign (v := vb false) Z Z (wpo_nil ⟨(cB (by simp [E, O, ab, ac, af, ah])), (Xe (Xe (Xe (Xe (Xe V ae) ag) ai) aj) am)⟩))))
 exact Xd Z Z Z af Z (Xd Z Z Z af Z (wpo_pickf (v := vb false) Z af Z Z (wpo_move (v := vb false) Z Z (Xd Z Z Z Z Z (Xd Z Z Z Z Z (wpo_pickf (v := vb false) Z Z Z Z (wpo_assign (v := vb false) Z Z (wpo_nil ⟨(cB (by simp [E, O, ab, ac, af])), (Xe (Xe (Xe (Xe V ae) ag) ai) aj)⟩))))))))
 exact Xd Z Z Z ac Z (Xd Z Z Z ac Z (wpo_pickf (v := vb false) Z ac Z Z (wpo_move (v := vb false) Z Z (Xd Z Z Z Z Z (Xd Z Z Z Z Z (wpo_pickf (v := vb false) Z Z Z Z (wpo_move (v := vb false) Z Z (Xd Z Z Z Z Z (Xd Z Z Z Z Z (wpo_pickf (v := vb false) Z Z Z Z (wpo_assign (v := vb false) Z Z (wpo_nil ⟨(cB (by simp [E, O, ab, ac])), (Xe (Xe (Xe V ae) ag) ai)⟩))))))))))))
 refine Xd Z Z Z ab Z (Xd Z Z Z ab Z (wpo_pickf (v := vb false) Z ab Z Z (wpo_move (v := vb false) Z Z (Xd Z Z Z Z Z (Xd Z Z Z Z Z (wpo_pickf (v := vb false) Z Z Z Z (wpo_move (v := vb false) Z Z (Xd Z Z Z Z Z (Xd Z Z Z Z Z (wpo_pickf (v := vb false) Z Z Z Z (wpo_move (v := vb false) Z Z (Xd Z Z Z Z Z ?_))))))))))))
 exact Xd Z Z Z Z Z (wpo_pickf (v := vb false) Z Z Z Z (wpo_assign (v := vb false) Z Z (wpo_nil ⟨(cB (by simp [E, O, ab])), (Xe (Xe V ae) ag)⟩)))
 refine Xd Z Z Z O Z (Xd Z Z Z O Z (wpo_pickf (v := vb false) Z O Z Z (wpo_move (v := vb false) Z Z (Xd Z Z Z Z Z (Xd Z Z Z Z Z (wpo_pickf (v := vb false) Z Z Z Z (wpo_move (v := vb false) Z Z (Xd Z Z Z Z Z (Xd Z Z Z Z Z (wpo_pickf (v := vb false) Z Z Z Z (wpo_move (v := vb false) Z Z (Xd Z Z Z Z Z ?_))))))))))))
 exact Xd Z Z Z Z Z (wpo_pickf (v := vb false) Z Z Z Z (wpo_move (v := vb false) Z Z (Xd Z Z Z Z Z (Xd Z Z Z Z Z (wpo_pickf (v := vb false) Z Z Z Z (wpo_assign (v := vb false) Z Z (wpo_nil ⟨(cB (by simp [E, O])), (Xe V ae)⟩)))))))
 iterate 3 refine Xd rfl rfl rfl E rfl ?_
 refine wpo_pickf (v := vb false) Z E Z Z (wpo_move (v := vb false) Z Z (Xd Z Z Z Z Z (Xd Z Z Z Z Z (wpo_pickf (v := vb false) Z Z Z Z (wpo_move (v := vb false) Z Z (Xd Z Z Z Z Z (Xd Z Z Z Z Z (wpo_pickf (v := vb false) Z Z Z Z (wpo_move (v := vb false) Z Z (Xd Z Z Z Z Z (Xd Z Z Z Z Z (wpo_pickf (v := vb false) Z Z Z Z ?_))))))))))))
 exact wpo_move (v := vb false) Z Z (Xd Z Z Z Z Z (Xd Z Z Z Z Z (wpo_pickf (v := vb false) Z Z Z Z (wpo_move (v := vb false) Z Z (Xd Z Z Z Z Z (Xd Z Z Z Z Z (wpo_pickf (v := vb false) Z Z Z Z (wpo_assign (v := vb false) Z Z (wpo_nil ⟨(cB (by simp [E])), V⟩)))))))))
 rintro bd bl ⟨az, aw⟩
 refine Xk (⟨vb ((((((inR m.t.kind 1 5 && labelOk m.t.lab) && versOk m.t) && numOk m.t) && slotsOk m.t) && queueOk m.t) && targetOk m.t), res1 Z az, ?_, (low0 an aw)⟩)
 rfl
theorem J5 [Comp] (n : Int) (w : World) : CallsR Try.prog 95 #[vi n] w (fun v w' => v = vb (decide (n = 2) || decide (n = 3)) ∧ w.grownBy w' none) := by
 refine Xq (n := 9) Try.func95 Z Try.ntmps95 Z (Xa (wpo_assign (v := vb false) Z Z (wpo_nil (Xt (fun f' w' => (f' 2 = vb ((decide (n = 2)) || (decide (n = 3)))) ∧ w = w') ?_ ?_))))
 refine wpo_move (v := vi n) Z Z (wpo_eql (q := decide (n = 2)) Z Z Z Z (wpo_move (v := vb (decide (n = 2))) Z Z ?_))
 rcases X1 (decide (n = 2)) with E | E
 have ab := of_decide_eq_true E
 exact Xd Z Z Z E Z (Xd Z Z Z E Z (wpo_pickt (v := vb true) Z E Z Z (wpo_assign (v := vb true) Z Z (wpo_nil ⟨(cB (by simp [E])), Z⟩))))
 have ac := of_decide_eq_false E
 exact Xc Z Z Z E (wpo_move (v := vi n) Z Z (Xc Z Z Z E (wpo_eql (q := decide (n = 3)) Z Z Z Z (wpo_pickf (v := vb (decide (n = 3))) Z E Z Z (wpo_assign (v := vb (decide (n = 3))) Z Z (wpo_nil ⟨(cB (by simp [E])), Z⟩))))))
 rintro V ae ⟨O, rfl⟩
 refine Xk (⟨vb ((decide (n = 2)) || (decide (n = 3))), res1 Z O, ?_, (World.grownBy.refl w none)⟩)
 rfl
theorem Ks [Comp] (m : MTh) (w : World) (hs : SlAt w m.sa 5 (m.t.slots.map Rt.cells)) (hq : SlAt w m.qa 1 (m.t.queue.map icell)) (hsl : m.t.slots.length ≤ 9223372036854775806) (hql : m.t.queue.length ≤ 9223372036854775806) : CallsR Try.prog 45 #[.agg #[vi m.t.kind, vi m.t.lab.s, vi m.t.lab.v, vi m.t.ve, vi m.t.num, .slice m.sa m.t.slots.length m.sc, .slice m.qa m.t.queue.length m.qc, vi m.t.to]] w (fun v w' => v = vb (thingOk m.t) ∧ w.grownBy w' none) := by
 refine Xq (n := 144) Try.func45 Z Try.ntmps45 Z ?_
 have f9 := World.grownBy.refl w none
 refine Xa (wpo_box (v := .agg #[vi m.t.kind, vi m.t.lab.s, vi m.t.lab.v, vi m.t.ve, vi m.t.num, .slice m.sa m.t.slots.length m.sc, .slice m.qa m.t.queue.length m.qc, vi m.t.to]) (cs := #[vi m.t.kind, vi m.t.lab.s, vi m.t.lab.v, vi m.t.ve, vi m.t.num, .slice m.sa m.t.slots.length m.sc, .slice m.qa m.t.queue.length m.qc, vi m.t.to]) Z Z Z ?_)
 intro cd gb cg
 have gg := Xy cg f9
 refine wpo_assign (v := vb false) Z Z (wpo_nil (Xi (Xt (fun f' w' => (f' 1 = pt cd 0 ∧ f' 2 = vb false ∧ f' 27 = vb ((((!inR m.t.kind 1 5) || (!labelOk m.t.lab)) || (!inR m.t.ve 0 5)) || (decide (3 < (m.t.queue.length : Int))))) ∧ gb.grownBy w' none) ?_ ?_)))
 refine wpo_fieldAddr (o' := 0) X8 Z Z Z (wpo_load1 (v := vi m.t.kind) X0 Z (cg.blk.cell Z) Z (Xg Vu (Xb Z (Xb Z (Xb Z Xf))) Z (Kn m.t.kind 1 5 _) ?_))
 rintro _ i8 ⟨rfl, cj⟩
 refine wpo_not (b' := !inR m.t.kind 1 5) Z Z Z (wpo_move (v := vb (!inR m.t.kind 1 5)) Z Z ?_)
 rcases X1 (!inR m.t.kind 1 5) with bg | bg
 have eu := Jd bg
 iterate 4 refine Xd rfl rfl rfl bg rfl ?_
 refine wpo_pickt (v := vb true) Z bg Z Z (wpo_move (v := vb true) Z Z ?_)
 iterate 4 refine Xd rfl rfl rfl rfl rfl ?_
 refine wpo_pickt (v := vb true) Z Z Z Z (wpo_move (v := vb true) Z Z ?_)
 iterate 4 refine Xd rfl rfl rfl rfl rfl ?_
 exact wpo_pickt (v := vb true) Z Z Z Z (wpo_nil ⟨⟨Z, Z, (congrArg Value.bool (by first | (simp only [bg, eu, b0, b1, b2, b3, b4, b5, b6, b7, b8, b9]; done) | simp [bg, eu]))⟩, cj⟩)
 have cn := Qn bg
 refine Xc Z Z Z bg (wpo_fieldAddr (o' := 1) Jl Z Z Z (Xc Z Z Z bg ?_))
 have fa := (cg.blk.grown0 cj)
 refine wpo_loadn (vs := [vi m.t.lab.s, vi m.t.lab.v]) Yu Z Z (fa.rangeL 1 2 Z) Z (Xc Z Z Z bg (Xg Dz (Xb Z Xf) Z (Uy m.t.lab _) ?_))
 rintro _ i9 ⟨rfl, co⟩
 refine Xc Z Z Z bg (wpo_not (b' := !labelOk m.t.lab) Z Z Z (wpo_pickf (v := vb (!labelOk m.t.lab)) Z bg Z Z (wpo_move (v := vb (!labelOk m.t.lab)) Z Z ?_)))
 rcases X1 (!labelOk m.t.lab) with bi | bi
 have ew := Jd bi
 iterate 4 refine Xd rfl rfl rfl bi rfl ?_
 refine wpo_pickt (v := vb true) Z bi Z Z (wpo_move (v := vb true) Z Z ?_)
 iterate 4 refine Xd rfl rfl rfl rfl rfl ?_
 exact wpo_pickt (v := vb true) Z Z Z Z (wpo_nil ⟨⟨Z, Z, (congrArg Value.bool (by first | (simp only [bg, cn, bi, ew, b0, b1, b2, b3, b4, b5, b6, b7, b8, b9]; done) | simp [bg, cn, bi, ew]))⟩, (Xe cj co)⟩)
 have dl := Qn bi
 refine Xc Z Z Z bi (wpo_fieldAddr (o' := 3) Q2 Z Z Z (Xc Z Z Z bi ?_))
 have fb := (fa.grown0 co)
 refine wpo_load1 (v := vi m.t.ve) X0 Z (fb.cell Z) Z (Xc Z Z Z bi (Xg Vu (Xb Z (Xb Z (Xb Z Xf))) Z (Kn m.t.ve 0 5 _) ?_))
 rintro _ ja ⟨rfl, db⟩
 refine Xc Z Z Z bi (wpo_not (b' := !inR m.t.ve 0 5) Z Z Z (wpo_pickf (v := vb (!inR m.t.ve 0 5)) Z bi Z Z (wpo_move (v := vb (!inR m.t.ve 0 5)) Z Z ?_)))
 rcases X1 (!inR m.t.ve 0 5) with bk | bk
 have ex := Jd bk
 iterate 4 refine Xd rfl rfl rfl bk rfl ?_
 exact wpo_pickt (v := vb true) Z bk Z Z (wpo_nil ⟨⟨Z, Z, (congrArg Value.bool (by first | (simp only [bg, cn, bi, dl, bk, ex, b0, b1, b2, b3, b4, b5, b6, b7, b8, b9]; done) | simp [bg, cn, bi, dl, bk, ex]))⟩, (Xe (Xe cj co) db)⟩)
 have ey := Qn bk
 exact Xc Z Z Z bk (wpo_fieldAddr (o' := 6) Qt Z Z Z (Xc Z Z Z bk (wpo_load1 (v := .slice m.qa m.t.queue.length m.qc) J0 Z ((fb.grown0 db).cell Z) Z (Xc Z Z Z bk (wpo_len (by kernel_rfl) Z Z (Xc Z Z Z bk (wpo_gtr (q := decide (3 < (m.t.queue.length : Int))) Z Z Z Z (wpo_pickf (v := vb (decide (3 < (m.t.queue.length : Int)))) Z bk Z Z (wpo_nil ⟨⟨Z, Z, (congrArg Value.bool (by first | (simp only [bg, cn, bi, dl, bk, ey, b0, b1, b2, b3, b4, b5, b6, b7, b8, b9]; done) | simp [bg, cn, bi, dl, bk, ey]))⟩, (Xe (Xe cj co) db)⟩)))))))))
 rintro gp fe ⟨⟨dp, ek, fq⟩, ed⟩
 have d6 := low0 (low0 f9 cg.grw) ed
 refine Xs fq (fun E => ?_) (fun E => ?_)
 refine Xa (wpo_assign (v := vb false) Z Z (wpo_nil (Xk (X9 (⟨vb false, res1 Z Z, ?_, d6⟩)))))
 exact congrArg Value.bool (Iy E)
 have O := J6 E
 have V := J6 O
 have ab := J6 V
 have ag := Qn ab
 have ac := J7 V
 have ah := Qn ac
 have ae := J7 O
 have ai := Qn ae
 have af := J7 E
 have gx := of_decide_eq_false af
 refine Xl (Xr (Xa (wpo_assign (v := vi 0) Z Z (wpo_nil (Xi (Xa (wpo_fieldAddr (o' := 0) X8 dp Z Z ?_)))))))
 have dm := (cg.blk.grown0 ed)
 refine wpo_load1 (v := vi m.t.kind) X0 Z (dm.cell Z) Z (wpo_eql (q := decide (m.t.kind = 3)) Z Z Z Z (wpo_nil (Nm (fun f' w' => (f' 1 = pt cd 0 ∧ f' 2 = vb false ∧ f' 3 = vi (if m.t.kind = 3 then (-4) else 0)) ∧ fe = w') ?_ ?_)))
 refine Xs Z (fun cw => ?_) (fun cw => ?_)
 have gy := of_decide_eq_true cw
 exact Xo (wpo_assign (v := vi (-4)) Z Z (wpo_nil (Xr (⟨⟨dp, ek, (congrArg (Value.int .i64) (if_pos (of_decide_eq_true cw)).symm)⟩, Z⟩))))
 have gz := of_decide_eq_false cw
 exact Xl (Xr (⟨⟨dp, ek, (congrArg (Value.int .i64) (if_neg (of_decide_eq_false cw)).symm)⟩, Z⟩))
 rintro gq _ ⟨⟨bd, ca, ft⟩, rfl⟩
 refine Xr (Xi (Xt (fun f' w' => (f' 1 = pt cd 0 ∧ f' 2 = vb false ∧ f' 65 = vb (((!inR m.t.num (if m.t.kind = 3 then (-4) else 0) 99) || ((!(decide (m.t.num = 0))) && ((decide (m.t.kind = 2)) || (decide (m.t.kind = 4))))) || ((!(decide (m.t.ve = 0))) && ((decide (m.t.kind = 3)) || (decide (m.t.kind = 5)))))) ∧ fe.grownBy w' none) ?_ ?_))
 refine wpo_fieldAddr (o' := 4) Jg bd Z Z (wpo_load1 (v := vi m.t.num) X0 Z (dm.cell Z) Z (wpo_move (v := vi (if m.t.kind = 3 then (-4) else 0)) ft Z (Xg Vu (Xb Z (Xb Z (Xb Z Xf))) Z (Kn m.t.num (if m.t.kind = 3 then (-4) else 0) 99 _) ?_)))
 rintro _ jb ⟨rfl, bq⟩
 refine wpo_not (b' := !inR m.t.num (if m.t.kind = 3 then (-4) else 0) 99) Z Z Z (wpo_move (v := vb (!inR m.t.num (if m.t.kind = 3 then (-4) else 0) 99)) Z Z ?_)
 rcases X1 (!inR m.t.num (if m.t.kind = 3 then (-4) else 0) 99) with aj | aj
 have ez := Jd aj
 iterate 4 refine Xd rfl rfl rfl aj rfl ?_
 iterate 8 refine Xz rfl rfl rfl rfl ?_
 refine Xd Z Z Z aj Z (wpo_pickt (v := vb true) Z aj Z Z (wpo_move (v := vb true) Z Z ?_))
 iterate 4 refine Xd rfl rfl rfl rfl rfl ?_
 iterate 8 refine Xz rfl rfl rfl rfl ?_
 exact Xd Z Z Z Z Z (wpo_pickt (v := vb true) Z Z Z Z (wpo_nil ⟨⟨bd, ca, (congrArg Value.bool (by first | (simp only [E, O, V, ab, ag, ac, ah, ae, ai, af, aj, ez, b0, b1, b2, b3, b4, b5, b6, b7, b8, b9]; done) | simp [E, O, V, ab, ag, ac, ah, ae, ai, af, aj, ez]))⟩, bq⟩))
 have bj := Qn aj
 refine Xc Z Z Z aj (wpo_fieldAddr (o' := 4) Jg bd Z Z (Xc Z Z Z aj ?_))
 have cc := (dm.grown0 bq)
 refine wpo_load1 (v := vi m.t.num) X0 Z (cc.cell Z) Z (Xc Z Z Z aj (wpo_neq (q := !(decide (m.t.num = 0))) Z Z Z Z (Xc Z Z Z aj (wpo_move (v := vb (!(decide (m.t.num = 0)))) Z Z ?_))))
 rcases X1 (!(decide (m.t.num = 0))) with ak | ak
 have bz := Jd ak
 have g4 := of_decide_eq_false bz
 refine Xc Z Z Z ak (wpo_fieldAddr (o' := 0) X8 bd Z Z (Xc Z Z Z ak (wpo_load1 (v := vi m.t.kind) X0 Z (cc.cell Z) Z (Xc Z Z Z ak (wpo_eql (q := decide (m.t.kind = 2)) Z Z Z Z (Xc Z Z Z ak (wpo_move (v := vb (decide (m.t.kind = 2))) Z Z ?_)))))))
 rcases X1 (decide (m.t.kind = 2)) with be | be
 have g7 := of_decide_eq_true be
 iterate 3 refine Xd rfl rfl rfl be rfl ?_
 refine Xc Z Z Z ak (wpo_pickt (v := vb true) Z be Z Z (Xc Z Z Z aj (wpo_pickt (v := vb true) Z ak Z Z (wpo_pickf (v := vb true) Z aj Z Z (wpo_move (v := vb true) Z Z ?_)))))
 iterate 4 refine Xd rfl rfl rfl rfl rfl ?_
 iterate 8 refine Xz rfl rfl rfl rfl ?_
 exact Xd Z Z Z Z Z (wpo_pickt (v := vb true) Z Z Z Z (wpo_nil ⟨⟨bd, ca, (congrArg Value.bool (by first | (simp only [E, O, V, ab, ag, ac, ah, ae, ai, af, aj, bj, ak, bz, be, b0, b1, b2, b3, b4, b5, b6, b7, b8, b9]; done) | simp [E, O, V, ab, ag, ac, ah, ae, ai, af, aj, bj, ak, bz, be]))⟩, bq⟩))
 have g8 := of_decide_eq_false be
 refine Xc Z Z Z be (wpo_fieldAddr (o' := 0) X8 bd Z Z (Xc Z Z Z be (wpo_load1 (v := vi m.t.kind) X0 Z (cc.cell Z) Z (Xc Z Z Z be (wpo_eql (q := decide (m.t.kind = 4)) Z Z Z Z (Xc Z Z Z ak (wpo_pickf (v := vb (decide (m.t.kind = 4))) Z be Z Z (Xc Z Z Z aj (wpo_pickt (v := vb (decide (m.t.kind = 4))) Z ak Z Z (wpo_pickf (v := vb (decide (m.t.kind = 4))) Z aj Z Z (wpo_move (v := vb (decide (m.t.kind = 4))) Z Z ?_)))))))))))
 rcases X1 (decide (m.t.kind = 4)) with an | an
 have g9 := of_decide_eq_true an
 iterate 4 refine Xd rfl rfl rfl an rfl ?_
 iterate 8 refine Xz rfl rfl rfl rfl ?_
 exact Xd Z Z Z an Z (wpo_pickt (v := vb true) Z an Z Z (wpo_nil ⟨⟨bd, ca, (congrArg Value.bool (by first | (simp only [E, O, V, ab, ag, ac, ah, ae, ai, af, aj, bj, ak, bz, be, an, b0, b1, b2, b3, b4, b5, b6, b7, b8, b9]; done) | simp [E, O, V, ab, ag, ac, ah, ae, ai, af, aj, bj, ak, bz, be, an]))⟩, bq⟩))
 have ia := of_decide_eq_false an
 refine Xc Z Z Z an (wpo_fieldAddr (o' := 3) Q2 bd Z Z (Xc Z Z Z an (wpo_load1 (v := vi m.t.ve) X0 Z (cc.cell Z) Z (Xc Z Z Z an (wpo_neq (q := !(decide (m.t.ve = 0))) Z Z Z Z (Xc Z Z Z an (wpo_move (v := vb (!(decide (m.t.ve = 0)))) Z Z ?_)))))))
 rcases X1 (!(decide (m.t.ve = 0))) with az | az
 have cx := Jd az
 have ib := of_decide_eq_false cx
 refine Xc Z Z Z az (wpo_fieldAddr (o' := 0) X8 bd Z Z (Xc Z Z Z az (wpo_load1 (v := vi m.t.kind) X0 Z (cc.cell Z) Z (Xc Z Z Z az (wpo_eql (q := decide (m.t.kind = 3)) Z Z Z Z (Xc Z Z Z az (wpo_move (v := vb (decide (m.t.kind = 3))) Z Z ?_)))))))
 rcases X1 (decide (m.t.kind = 3)) with br | br
 have ic := of_decide_eq_true br
 iterate 3 refine Xd rfl rfl rfl br rfl ?_
 exact Xc Z Z Z az (wpo_pickt (v := vb true) Z br Z Z (Xc Z Z Z an (wpo_pickt (v := vb true) Z az Z Z (wpo_pickf (v := vb true) Z an Z Z (wpo_nil ⟨⟨bd, ca, (congrArg Value.bool (by first | (simp only [E, O, V, ab, ag, ac, ah, ae, ai, af, aj, bj, ak, bz, be, an, az, cx, br, b0, b1, b2, b3, b4, b5, b6, b7, b8, b9]; done) | simp [E, O, V, ab, ag, ac, ah, ae, ai, af, aj, bj, ak, bz, be, an, az, cx, br]))⟩, bq⟩)))))
 have ie := of_decide_eq_false br
 exact Xc Z Z Z br (wpo_fieldAddr (o' := 0) X8 bd Z Z (Xc Z Z Z br (wpo_load1 (v := vi m.t.kind) X0 Z (cc.cell Z) Z (Xc Z Z Z br (wpo_eql (q := decide (m.t.kind = 5)) Z Z Z Z (Xc Z Z Z az (wpo_pickf (v := vb (decide (m.t.kind = 5))) Z br Z Z (Xc Z Z Z an (wpo_pickt (v := vb (decide (m.t.kind = 5))) Z az Z Z (wpo_pickf (v := vb (decide (m.t.kind = 5))) Z an Z Z (wpo_nil ⟨⟨bd, ca, (congrArg Value.bool (by first | (simp only [E, O, V, ab, ag, ac, ah, ae, ai, af, aj, bj, ak, bz, be, an, az, cx, br, b0, b1, b2, b3, b4, b5, b6, b7, b8, b9]; done) | simp [E, O, V, ab, ag, ac, ah, ae, ai, af, aj, bj, ak, bz, be, an, az, cx, br]))⟩, bq⟩)))))))))))
 have dt := Qn az
 have ig := of_decide_eq_true dt
 iterate 4 refine Xd rfl rfl rfl az rfl ?_
 iterate 3 refine Xz rfl rfl rfl rfl ?_
 exact Xd Z Z Z az Z (Xc Z Z Z an (wpo_pickf (v := vb false) Z az Z Z (wpo_pickf (v := vb false) Z an Z Z (wpo_nil ⟨⟨bd, ca, (congrArg Value.bool (by first | (simp only [E, O, V, ab, ag, ac, ah, ae, ai, af, aj, bj, ak, bz, be, an, az, dt, b0, b1, b2, b3, b4, b5, b6, b7, b8, b9]; done) | simp [E, O, V, ab, ag, ac, ah, ae, ai, af, aj, bj, ak, bz, be, an, az, dt]))⟩, bq⟩))))
 have ce := Qn ak
 have ii := of_decide_eq_true ce
 iterate 4 refine Xd rfl rfl rfl ak rfl ?_
 iterate 3 refine Xz rfl rfl rfl rfl ?_
 refine Xd Z Z Z ak Z (Xc Z Z Z aj (wpo_pickf (v := vb false) Z ak Z Z (wpo_pickf (v := vb false) Z aj Z Z (wpo_move (v := vb false) Z Z (Xc Z Z Z Z (wpo_fieldAddr (o' := 3) Q2 bd Z Z (Xc Z Z Z Z (wpo_load1 (v := vi m.t.ve) X0 Z (cc.cell Z) Z (Xc Z Z Z Z (wpo_neq (q := !(decide (m.t.ve = 0))) Z Z Z Z (Xc Z Z Z Z (wpo_move (v := vb (!(decide (m.t.ve = 0)))) Z Z ?_))))))))))))
 rcases X1 (!(decide (m.t.ve = 0))) with a8 | a8
 have cy := Jd a8
 have ij := of_decide_eq_false cy
 refine Xc Z Z Z a8 (wpo_fieldAddr (o' := 0) X8 bd Z Z (Xc Z Z Z a8 (wpo_load1 (v := vi m.t.kind) X0 Z (cc.cell Z) Z (Xc Z Z Z a8 (wpo_eql (q := decide (m.t.kind = 3)) Z Z Z Z (Xc Z Z Z a8 (wpo_move (v := vb (decide (m.t.kind = 3))) Z Z ?_)))))))
 rcases X1 (decide (m.t.kind = 3)) with bt | bt
 have ik := of_decide_eq_true bt
 iterate 3 refine Xd rfl rfl rfl bt rfl ?_
 exact Xc Z Z Z a8 (wpo_pickt (v := vb true) Z bt Z Z (Xc Z Z Z Z (wpo_pickt (v := vb true) Z a8 Z Z (wpo_pickf (v := vb true) Z Z Z Z (wpo_nil ⟨⟨bd, ca, (congrArg Value.bool (by first | (simp only [E, O, V, ab, ag, ac, ah, ae, ai, af, aj, bj, ak, ce, a8, cy, bt, b0, b1, b2, b3, b4, b5, b6, b7, b8, b9]; done) | simp [E, O, V, ab, ag, ac, ah, ae, ai, af, aj, bj, ak, ce, a8, cy, bt]))⟩, bq⟩)))))
 have il := of_decide_eq_false bt
 exact Xc Z Z Z bt (wpo_fieldAddr (o' := 0) X8 bd Z Z (Xc Z Z Z bt (wpo_load1 (v := vi m.t.kind) X0 Z (cc.cell Z) Z (Xc Z Z Z bt (wpo_eql (q := decide (m.t.kind = 5)) Z Z Z Z (Xc Z Z Z a8 (wpo_pickf (v := vb (decide (m.t.kind = 5))) Z bt Z Z (Xc Z Z Z Z (wpo_pickt (v := vb (decide (m.t.kind = 5))) Z a8 Z Z (wpo_pickf (v := vb (decide (m.t.kind = 5))) Z Z Z Z (wpo_nil ⟨⟨bd, ca, (congrArg Value.bool (by first | (simp only [E, O, V, ab, ag, ac, ah, ae, ai, af, aj, bj, ak, ce, a8, cy, bt, b0, b1, b2, b3, b4, b5, b6, b7, b8, b9]; done) | simp [E, O, V, ab, ag, ac, ah, ae, ai, af, aj, bj, ak, ce, a8, cy, bt]))⟩, bq⟩)))))))))))
 have du := Qn a8
 have im := of_decide_eq_true du
 iterate 4 refine Xd rfl rfl rfl a8 rfl ?_
 iterate 3 refine Xz rfl rfl rfl rfl ?_
 exact Xd Z Z Z a8 Z (Xc Z Z Z Z (wpo_pickf (v := vb false) Z a8 Z Z (wpo_pickf (v := vb false) Z Z Z Z (wpo_nil ⟨⟨bd, ca, (congrArg Value.bool (by first | (simp only [E, O, V, ab, ag, ac, ah, ae, ai, af, aj, bj, ak, ce, a8, du, b0, b1, b2, b3, b4, b5, b6, b7, b8, b9]; done) | simp [E, O, V, ab, ag, ac, ah, ae, ai, af, aj, bj, ak, ce, a8, du]))⟩, bq⟩))))
 rintro gr jc ⟨⟨fu, gm, fv⟩, ee⟩
 have d7 := low0 d6 ee
 refine Xs fv (fun am => ?_) (fun am => ?_)
 refine Xa (wpo_assign (v := vb false) Z Z (wpo_nil (Xk (X9 (⟨vb false, res1 Z Z, ?_, d7⟩)))))
 exact congrArg Value.bool (Iz am)
 have as := J6 am
 have au := J6 as
 have a9 := Qn au
 have ba := J7 as
 have bc := J7 am
 refine Xl (Xr (Xi (Xa (wpo_assign (v := vi 0) Z Z (wpo_nil (Xu (Yf (fun mm f' w' => ∃ (k : Nat), mm = m.t.queue.length - k ∧ k ≤ m.t.queue.length ∧ ((m.t.queue.take k).all numQ) = true ∧ f' 4 = vi (k : Int) ∧ f' 1 = pt cd 0 ∧ w.grownBy w' none ∧ Blk w' cd 35 #[vi m.t.kind, vi m.t.lab.s, vi m.t.lab.v, vi m.t.ve, vi m.t.num, .slice m.sa m.t.slots.length m.sc, .slice m.qa m.t.queue.length m.qc, vi m.t.to]) (m.t.queue.length - 0) ⟨0, Z, (Nat.zero_le _), Z, Z, fu, d7, (dm.grown0 ee)⟩ ?_)))))))
 rintro mm gt jd ⟨k, gh, hk, ha, dq, dk, cz, dn⟩
 refine Xi (Xa (wpo_move (v := vi (k : Int)) dq Z (wpo_fieldAddr (o' := 6) Qt dk Z Z (wpo_load1 (v := .slice m.qa m.t.queue.length m.qc) J0 Z (dn.cell Z) Z (wpo_len (by kernel_rfl) Z Z (wpo_lss (q := decide ((k : Int) < (m.t.queue.length : Int))) Z Z Z Z (wpo_nil (Xs Z (fun ap => ?_) (fun ap => ?_)))))))))
 have io := of_decide_eq_true ap
 refine Xl (Xr (Xi (Xu (Xa (wpo_fieldAddr (o' := 6) Qt dk Z Z (wpo_load1 (v := .slice m.qa m.t.queue.length m.qc) J0 Z (dn.cell Z) Z (wpo_move (v := vi (k : Int)) dq Z ?_)))))))
 obtain ⟨ej, dh⟩ := Qo (l := m.t.queue) (i := k) (by omega)
 obtain ⟨gj, i6, i4, ff, fj, fm⟩ := SlAt.at hq (Yk dh)
 refine Xx Kx Z Z ff fj (by omega) (by omega) Z (wpo_load1 (v := vi ej) X0 Z ((Yb fm cz) 0 _ Z) Z (Xg Vu (Xb Z (Xb Z (Xb Z Xf))) Z (Kn ej 0 99 _) ?_))
 rintro _ je ⟨rfl, ef⟩
 have d8 := low0 cz ef
 refine wpo_not (b' := !inR ej 0 99) Z Z Z (wpo_nil (Xs Z (fun dv => ?_) (fun dv => ?_)))
 have fy := Jd dv
 refine Xa (wpo_assign (v := vb false) Z Z (wpo_nil (Xk (Qh (X9 (X9 (Qh (X9 (⟨vb false, res1 Z Z, ?_, d8⟩)))))))))
 exact congrArg Value.bool (I2 dh fy)
 have fz := Qn dv
 exact Xl (Y1 (Xr (Xo (wpo_move (v := vi (k : Int)) dq Z (wpo_add (c := (k : Int) + 1) Z Z (by omega) (by omega) (by omega) Z (wpo_assign (v := vi ((k : Int) + 1)) Z Z (wpo_nil (Xr (⟨m.t.queue.length - (k + 1), by omega, (k + 1), Z, (by omega), (Q7 (p := numQ) ha dh fz), Z, dk, d8, (dn.grown0 ef)⟩)))))))))
 have ip := of_decide_eq_false ap
 refine Yn (Yx (Yx (Jk (Xr (Xi (Xa (wpo_assign (v := vi 0) Z Z (wpo_nil (Xu (Yf (fun mm f' w' => ∃ (j : Nat), mm = m.t.slots.length - j ∧ j ≤ m.t.slots.length ∧ ((m.t.slots.take j).all rightOk) = true ∧ f' 5 = vi (j : Int) ∧ f' 1 = pt cd 0 ∧ w.grownBy w' none ∧ Blk w' cd 35 #[vi m.t.kind, vi m.t.lab.s, vi m.t.lab.v, vi m.t.ve, vi m.t.num, .slice m.sa m.t.slots.length m.sc, .slice m.qa m.t.queue.length m.qc, vi m.t.to]) (m.t.slots.length - 0) ⟨0, Z, (Nat.zero_le _), Z, Z, dk, cz, dn⟩ ?_))))))))))
 rintro mm gu gc ⟨j, gi, hj, hb, dr, bw, da, cl⟩
 refine Xi (Xa (wpo_move (v := vi (j : Int)) dr Z (wpo_fieldAddr (o' := 5) Y4 bw Z Z (wpo_load1 (v := .slice m.sa m.t.slots.length m.sc) Je Z (cl.cell Z) Z (wpo_len (by kernel_rfl) Z Z (wpo_lss (q := decide ((j : Int) < (m.t.slots.length : Int))) Z Z Z Z (wpo_nil (Xs Z (fun aq => ?_) (fun aq => ?_)))))))))
 have iq := of_decide_eq_true aq
 refine Xl (Xr (Xi (Xu (Xa (wpo_fieldAddr (o' := 5) Y4 bw Z Z (wpo_load1 (v := .slice m.sa m.t.slots.length m.sc) Je Z (cl.cell Z) Z (wpo_move (v := vi (j : Int)) dr Z ?_)))))))
 obtain ⟨cm, di⟩ := Qo (l := m.t.slots) (i := j) (by omega)
 obtain ⟨gl, i7, i5, fg, fk, fp⟩ := SlAt.at hs (Yk di)
 refine Xx G7 Z Z fg fk (by omega) (by omega) Z (wpo_loadn (vs := [vi cm.th, vi cm.ve, vb cm.rd, vb cm.wr, vb cm.wk]) Yy Z Z (Yl (Yb fp da) 0 5 Z) Z (Xg D5 (Xb Z Xf) Z (Hn cm _) ?_))
 rintro _ jf ⟨rfl, eg⟩
 have d9 := low0 da eg
 refine wpo_not (b' := !rightOk cm) Z Z Z (wpo_nil (Xs Z (fun dw => ?_) (fun dw => ?_)))
 have f7 := Jd dw
 refine Xa (wpo_assign (v := vb false) Z Z (wpo_nil (Xk (Qh (X9 (X9 (Qh (X9 (⟨vb false, res1 Z Z, ?_, d9⟩)))))))))
 exact congrArg Value.bool (I3 di f7)
 have f8 := Qn dw
 exact Xl (Y1 (Xr (Xo (wpo_move (v := vi (j : Int)) dr Z (wpo_add (c := (j : Int) + 1) Z Z (by omega) (by omega) (by omega) Z (wpo_assign (v := vi ((j : Int) + 1)) Z Z (wpo_nil (Xr (⟨m.t.slots.length - (j + 1), by omega, (j + 1), Z, (by omega), (Q7 (p := rightOk) hb di f8), Z, bw, d9, (cl.grown0 eg)⟩)))))))))
 have ir := of_decide_eq_false aq
 refine Yn (Yx (Yx (Jk (Xr (Xi (Xt (fun f' w' => (f' 1 = pt cd 0 ∧ f' 114 = vb ((((decide (m.t.kind = 2)) || (decide (m.t.kind = 3))) && (!(decide ((m.t.slots.length : Int) = 4)))) || ((!((decide (m.t.kind = 2)) || (decide (m.t.kind = 3)))) && (!(decide ((m.t.slots.length : Int) = 0)))))) ∧ gc.grownBy w' none) ?_ ?_))))))
 refine wpo_fieldAddr (o' := 0) X8 bw Z Z (wpo_load1 (v := vi m.t.kind) X0 Z (cl.cell Z) Z (Xg Ha (Xb Z Xf) Z (J5 m.t.kind _) ?_))
 rintro _ jg ⟨rfl, ck⟩
 refine wpo_move (v := vb ((decide (m.t.kind = 2)) || (decide (m.t.kind = 3)))) Z Z ?_
 rcases X1 ((decide (m.t.kind = 2)) || (decide (m.t.kind = 3))) with ar | ar
 refine Xc Z Z Z ar (wpo_fieldAddr (o' := 5) Y4 bw Z Z (Xc Z Z Z ar ?_))
 have fc := (cl.grown0 ck)
 refine wpo_load1 (v := .slice m.sa m.t.slots.length m.sc) Je Z (fc.cell Z) Z (Xc Z Z Z ar (wpo_len (by kernel_rfl) Z Z (Xc Z Z Z ar (wpo_neq (q := !(decide ((m.t.slots.length : Int) = 4))) Z Z Z Z (wpo_pickt (v := vb (!(decide ((m.t.slots.length : Int) = 4)))) Z ar Z Z (wpo_move (v := vb (!(decide ((m.t.slots.length : Int) = 4)))) Z Z ?_))))))
 rcases X1 (!(decide ((m.t.slots.length : Int) = 4))) with bh | bh
 have dx := Jd bh
 have is := of_decide_eq_false dx
 iterate 5 refine Xd rfl rfl rfl bh rfl ?_
 iterate 4 refine Xz rfl rfl rfl rfl ?_
 exact Xd Z Z Z bh Z (wpo_pickt (v := vb true) Z bh Z Z (wpo_nil ⟨⟨bw, (congrArg Value.bool (by first | (simp only [E, O, V, ab, ag, ac, ah, ae, ai, af, am, as, au, a9, ba, bc, ap, aq, ar, bh, dx, b0, b1, b2, b3, b4, b5, b6, b7, b8, b9]; done) | simp [E, O, V, ab, ag, ac, ah, ae, ai, af, am, as, au, a9, ba, bc, ap, aq, ar, bh, dx]))⟩, ck⟩))
 have dz := Qn bh
 have it := of_decide_eq_true dz
 refine Xc Z Z Z bh (wpo_fieldAddr (o' := 0) X8 bw Z Z (Xc Z Z Z bh (wpo_load1 (v := vi m.t.kind) X0 Z (fc.cell Z) Z (Xc Z Z Z bh (Xg Ha (Xb Z Xf) Z (J5 m.t.kind _) ?_)))))
 rintro _ jh ⟨rfl, fh⟩
 refine Xc Z Z Z bh (wpo_not (b' := !((decide (m.t.kind = 2)) || (decide (m.t.kind = 3)))) Z Z Z (Xc Z Z Z bh (wpo_move (v := vb (!((decide (m.t.kind = 2)) || (decide (m.t.kind = 3))))) Z Z ?_)))
 iterate 4 refine Xd rfl rfl rfl (Qi ar) rfl ?_
 exact Xc Z Z Z bh (wpo_pickf (v := vb false) Z (Qi ar) Z Z (wpo_pickf (v := vb false) Z bh Z Z (wpo_nil ⟨⟨bw, (congrArg Value.bool (by first | (simp only [E, O, V, ab, ag, ac, ah, ae, ai, af, am, as, au, a9, ba, bc, ap, aq, ar, bh, dz, b0, b1, b2, b3, b4, b5, b6, b7, b8, b9]; done) | simp [E, O, V, ab, ag, ac, ah, ae, ai, af, am, as, au, a9, ba, bc, ap, aq, ar, bh, dz]))⟩, (Xe ck fh)⟩)))
 have d0 := J6 ar
 have iu := of_decide_eq_false d0
 have d5 := J7 ar
 have iv := of_decide_eq_false d5
 iterate 4 refine Xd rfl rfl rfl ar rfl ?_
 refine wpo_pickf (v := vb false) Z ar Z Z (wpo_move (v := vb false) Z Z (Xc Z Z Z Z (wpo_fieldAddr (o' := 0) X8 bw Z Z (Xc Z Z Z Z ?_))))
 have fd := (cl.grown0 ck)
 refine wpo_load1 (v := vi m.t.kind) X0 Z (fd.cell Z) Z (Xc Z Z Z Z (Xg Ha (Xb Z Xf) Z (J5 m.t.kind _) ?_))
 rintro _ ji ⟨rfl, eh⟩
 refine Xc Z Z Z Z (wpo_not (b' := !((decide (m.t.kind = 2)) || (decide (m.t.kind = 3)))) Z Z Z (Xc Z Z Z Z (wpo_move (v := vb (!((decide (m.t.kind = 2)) || (decide (m.t.kind = 3))))) Z Z (Xc Z Z Z (Ys ar) (wpo_fieldAddr (o' := 5) Y4 bw Z Z (Xc Z Z Z (Ys ar) (wpo_load1 (v := .slice m.sa m.t.slots.length m.sc) Je Z ((fd.grown0 eh).cell Z) Z (Xc Z Z Z (Ys ar) (wpo_len (by kernel_rfl) Z Z (Xc Z Z Z (Ys ar) (wpo_neq (q := !(decide ((m.t.slots.length : Int) = 0))) Z Z Z Z (Xc Z Z Z Z ?_))))))))))))
 exact wpo_pickt (v := vb (!(decide ((m.t.slots.length : Int) = 0)))) Z (Ys ar) Z Z (wpo_pickf (v := vb (!(decide ((m.t.slots.length : Int) = 0)))) Z Z Z Z (wpo_nil ⟨⟨bw, (congrArg Value.bool (by first | (simp only [E, O, V, ab, ag, ac, ah, ae, ai, af, am, as, au, a9, ba, bc, ap, aq, ar, d0, d5, b0, b1, b2, b3, b4, b5, b6, b7, b8, b9]; done) | simp [E, O, V, ab, ag, ac, ah, ae, ai, af, am, as, au, a9, ba, bc, ap, aq, ar, d0, d5]))⟩, (Xe ck eh)⟩))
 rintro gv gf ⟨⟨bu, fw⟩, ei⟩
 have ea := low0 da ei
 refine Xs fw (fun bf => ?_) (fun bf => ?_)
 refine Xa (wpo_assign (v := vb false) Z Z (wpo_nil (Xk (X9 (⟨vb false, res1 Z Z, ?_, ea⟩)))))
 exact congrArg Value.bool (I0 bf)
 have bl := J6 bf
 have bm := J7 bf
 refine Xl (Xr (Xt (fun f' w' => (f' 2 = vb (((decide (m.t.kind = 4)) || (decide ((m.t.queue.length : Int) = 0))) && (((decide (m.t.kind = 5)) && inR m.t.to 1 8) || ((!(decide (m.t.kind = 5))) && (decide (m.t.to = 0)))))) ∧ gf.grownBy w' none) ?_ ?_))
 refine wpo_fieldAddr (o' := 0) X8 bu Z Z ?_
 have bv := (cl.grown0 ei)
 refine wpo_load1 (v := vi m.t.kind) X0 Z (bv.cell Z) Z (wpo_eql (q := decide (m.t.kind = 4)) Z Z Z Z (wpo_move (v := vb (decide (m.t.kind = 4))) Z Z ?_))
 rcases X1 (decide (m.t.kind = 4)) with ao | ao
 have iw := of_decide_eq_true ao
 iterate 4 refine Xd rfl rfl rfl ao rfl ?_
 refine wpo_pickt (v := vb true) Z ao Z Z (wpo_move (v := vb true) Z Z (Xc Z Z Z Z (wpo_fieldAddr (o' := 0) X8 bu Z Z (Xc Z Z Z Z (wpo_load1 (v := vi m.t.kind) X0 Z (bv.cell Z) Z (Xc Z Z Z Z (wpo_eql (q := decide (m.t.kind = 5)) Z Z Z Z (Xc Z Z Z Z (wpo_move (v := vb (decide (m.t.kind = 5))) Z Z ?_)))))))))
 rcases X1 (decide (m.t.kind = 5)) with av | av
 have ix := of_decide_eq_true av
 refine Xc Z Z Z av (wpo_fieldAddr (o' := 7) Jm bu Z Z (Xc Z Z Z av (wpo_load1 (v := vi m.t.to) X0 Z (bv.cell Z) Z (Xc Z Z Z av (Xg Vu (Xb Z (Xb Z (Xb Z Xf))) Z (Kn m.t.to 1 8 _) ?_)))))
 rintro _ jj ⟨rfl, dc⟩
 refine Xc Z Z Z Z (wpo_pickt (v := vb (inR m.t.to 1 8)) Z av Z Z (Xc Z Z Z Z (wpo_move (v := vb (inR m.t.to 1 8)) Z Z ?_)))
 rcases X1 (inR m.t.to 1 8) with bn | bn
 iterate 4 refine Xd rfl rfl rfl bn rfl ?_
 iterate 3 refine Xz rfl rfl rfl rfl ?_
 exact Xd Z Z Z bn Z (Xc Z Z Z Z (wpo_pickt (v := vb true) Z bn Z Z (wpo_pickt (v := vb true) Z Z Z Z (wpo_assign (v := vb true) Z Z (wpo_nil ⟨(congrArg Value.bool (by first | (simp only [E, O, V, ab, ag, ac, ah, ae, ai, af, am, as, au, a9, ba, bc, ap, aq, bf, bl, bm, ao, av, bn, b0, b1, b2, b3, b4, b5, b6, b7, b8, b9]; done) | simp [E, O, V, ab, ag, ac, ah, ae, ai, af, am, as, au, a9, ba, bc, ap, aq, bf, bl, bm, ao, av, bn])), dc⟩)))))
 refine Xc Z Z Z bn (wpo_fieldAddr (o' := 0) X8 bu Z Z (Xc Z Z Z bn (wpo_load1 (v := vi m.t.kind) X0 Z ((bv.grown0 dc).cell Z) Z (Xc Z Z Z bn (wpo_neq (q := !(decide (m.t.kind = 5))) Z Z Z Z (Xc Z Z Z bn (wpo_move (v := vb (!(decide (m.t.kind = 5)))) Z Z ?_)))))))
 iterate 3 refine Xd rfl rfl rfl (Qi av) rfl ?_
 exact Xc Z Z Z bn (wpo_pickf (v := vb false) Z (Qi av) Z Z (Xc Z Z Z Z (wpo_pickf (v := vb false) Z bn Z Z (wpo_pickt (v := vb false) Z Z Z Z (wpo_assign (v := vb false) Z Z (wpo_nil ⟨(congrArg Value.bool (by first | (simp only [E, O, V, ab, ag, ac, ah, ae, ai, af, am, as, au, a9, ba, bc, ap, aq, bf, bl, bm, ao, av, bn, b0, b1, b2, b3, b4, b5, b6, b7, b8, b9]; done) | simp [E, O, V, ab, ag, ac, ah, ae, ai, af, am, as, au, a9, ba, bc, ap, aq, bf, bl, bm, ao, av, bn])), dc⟩))))))
 have iy := of_decide_eq_false av
 iterate 3 refine Xd rfl rfl rfl av rfl ?_
 refine Xc Z Z Z Z (wpo_pickf (v := vb false) Z av Z Z (Xc Z Z Z Z (wpo_move (v := vb false) Z Z (Xc Z Z Z Z (wpo_fieldAddr (o' := 0) X8 bu Z Z (Xc Z Z Z Z (wpo_load1 (v := vi m.t.kind) X0 Z (bv.cell Z) Z (Xc Z Z Z Z (wpo_neq (q := !(decide (m.t.kind = 5))) Z Z Z Z (Xc Z Z Z Z (wpo_move (v := vb (!(decide (m.t.kind = 5)))) Z Z (Xc Z Z Z (Ys av) ?_))))))))))))
 exact wpo_fieldAddr (o' := 7) Jm bu Z Z (Xc Z Z Z (Ys av) (wpo_load1 (v := vi m.t.to) X0 Z (bv.cell Z) Z (Xc Z Z Z (Ys av) (wpo_eql (q := decide (m.t.to = 0)) Z Z Z Z (Xc Z Z Z Z (wpo_pickt (v := vb (decide (m.t.to = 0))) Z (Ys av) Z Z (Xc Z Z Z Z (wpo_pickf (v := vb (decide (m.t.to = 0))) Z Z Z Z (wpo_pickt (v := vb (decide (m.t.to = 0))) Z Z Z Z (wpo_assign (v := vb (decide (m.t.to = 0))) Z Z (wpo_nil ⟨(congrArg Value.bool (by first | (simp only [E, O, V, ab, ag, ac, ah, ae, ai, af, am, as, au, a9, ba, bc, ap, aq, bf, bl, bm, ao, av, b0, b1, b2, b3, b4, b5, b6, b7, b8, b9]; done) | simp [E, O, V, ab, ag, ac, ah, ae, ai, af, am, as, au, a9, ba, bc, ap, aq, bf, bl, bm, ao, av])), (World.grownBy.refl _ _)⟩)))))))))))
 have iz := of_decide_eq_false ao
 refine Xc Z Z Z ao (wpo_fieldAddr (o' := 6) Qt bu Z Z (Xc Z Z Z ao (wpo_load1 (v := .slice m.qa m.t.queue.length m.qc) J0 Z (bv.cell Z) Z (Xc Z Z Z ao (wpo_len (by kernel_rfl) Z Z (Xc Z Z Z ao (wpo_eql (q := decide ((m.t.queue.length : Int) = 0)) Z Z Z Z (wpo_pickf (v := vb (decide ((m.t.queue.length : Int) = 0))) Z ao Z Z (wpo_move (v := vb (decide ((m.t.queue.length : Int) = 0))) Z Z ?_)))))))))
 rcases X1 (decide ((m.t.queue.length : Int) = 0)) with al | al
 have i0 := of_decide_eq_true al
 refine Xc Z Z Z al (wpo_fieldAddr (o' := 0) X8 bu Z Z (Xc Z Z Z al (wpo_load1 (v := vi m.t.kind) X0 Z (bv.cell Z) Z (Xc Z Z Z al (wpo_eql (q := decide (m.t.kind = 5)) Z Z Z Z (Xc Z Z Z al (wpo_move (v := vb (decide (m.t.kind = 5))) Z Z ?_)))))))
 rcases X1 (decide (m.t.kind = 5)) with aw | aw
 have i1 := of_decide_eq_true aw
 refine Xc Z Z Z aw (wpo_fieldAddr (o' := 7) Jm bu Z Z (Xc Z Z Z aw (wpo_load1 (v := vi m.t.to) X0 Z (bv.cell Z) Z (Xc Z Z Z aw (Xg Vu (Xb Z (Xb Z (Xb Z Xf))) Z (Kn m.t.to 1 8 _) ?_)))))
 rintro _ jk ⟨rfl, de⟩
 refine Xc Z Z Z al (wpo_pickt (v := vb (inR m.t.to 1 8)) Z aw Z Z (Xc Z Z Z al (wpo_move (v := vb (inR m.t.to 1 8)) Z Z ?_)))
 rcases X1 (inR m.t.to 1 8) with bp | bp
 iterate 4 refine Xd rfl rfl rfl bp rfl ?_
 iterate 3 refine Xz rfl rfl rfl rfl ?_
 exact Xd Z Z Z bp Z (Xc Z Z Z al (wpo_pickt (v := vb true) Z bp Z Z (wpo_pickt (v := vb true) Z al Z Z (wpo_assign (v := vb true) Z Z (wpo_nil ⟨(congrArg Value.bool (by first | (simp only [E, O, V, ab, ag, ac, ah, ae, ai, af, am, as, au, a9, ba, bc, ap, aq, bf, bl, bm, ao, al, aw, bp, b0, b1, b2, b3, b4, b5, b6, b7, b8, b9]; done) | simp [E, O, V, ab, ag, ac, ah, ae, ai, af, am, as, au, a9, ba, bc, ap, aq, bf, bl, bm, ao, al, aw, bp])), de⟩)))))
 refine Xc Z Z Z bp (wpo_fieldAddr (o' := 0) X8 bu Z Z (Xc Z Z Z bp (wpo_load1 (v := vi m.t.kind) X0 Z ((bv.grown0 de).cell Z) Z (Xc Z Z Z bp (wpo_neq (q := !(decide (m.t.kind = 5))) Z Z Z Z (Xc Z Z Z bp (wpo_move (v := vb (!(decide (m.t.kind = 5)))) Z Z ?_)))))))
 iterate 3 refine Xd rfl rfl rfl (Qi aw) rfl ?_
 exact Xc Z Z Z bp (wpo_pickf (v := vb false) Z (Qi aw) Z Z (Xc Z Z Z al (wpo_pickf (v := vb false) Z bp Z Z (wpo_pickt (v := vb false) Z al Z Z (wpo_assign (v := vb false) Z Z (wpo_nil ⟨(congrArg Value.bool (by first | (simp only [E, O, V, ab, ag, ac, ah, ae, ai, af, am, as, au, a9, ba, bc, ap, aq, bf, bl, bm, ao, al, aw, bp, b0, b1, b2, b3, b4, b5, b6, b7, b8, b9]; done) | simp [E, O, V, ab, ag, ac, ah, ae, ai, af, am, as, au, a9, ba, bc, ap, aq, bf, bl, bm, ao, al, aw, bp])), de⟩))))))
 have i2 := of_decide_eq_false aw
 iterate 3 refine Xd rfl rfl rfl aw rfl ?_
 refine Xc Z Z Z al (wpo_pickf (v := vb false) Z aw Z Z (Xc Z Z Z al (wpo_move (v := vb false) Z Z (Xc Z Z Z Z (wpo_fieldAddr (o' := 0) X8 bu Z Z (Xc Z Z Z Z (wpo_load1 (v := vi m.t.kind) X0 Z (bv.cell Z) Z (Xc Z Z Z Z (wpo_neq (q := !(decide (m.t.kind = 5))) Z Z Z Z (Xc Z Z Z Z (wpo_move (v := vb (!(decide (m.t.kind = 5)))) Z Z (Xc Z Z Z (Ys aw) ?_))))))))))))
 exact wpo_fieldAddr (o' := 7) Jm bu Z Z (Xc Z Z Z (Ys aw) (wpo_load1 (v := vi m.t.to) X0 Z (bv.cell Z) Z (Xc Z Z Z (Ys aw) (wpo_eql (q := decide (m.t.to = 0)) Z Z Z Z (Xc Z Z Z Z (wpo_pickt (v := vb (decide (m.t.to = 0))) Z (Ys aw) Z Z (Xc Z Z Z al (wpo_pickf (v := vb (decide (m.t.to = 0))) Z Z Z Z (wpo_pickt (v := vb (decide (m.t.to = 0))) Z al Z Z (wpo_assign (v := vb (decide (m.t.to = 0))) Z Z (wpo_nil ⟨(congrArg Value.bool (by first | (simp only [E, O, V, ab, ag, ac, ah, ae, ai, af, am, as, au, a9, ba, bc, ap, aq, bf, bl, bm, ao, al, aw, b0, b1, b2, b3, b4, b5, b6, b7, b8, b9]; done) | simp [E, O, V, ab, ag, ac, ah, ae, ai, af, am, as, au, a9, ba, bc, ap, aq, bf, bl, bm, ao, al, aw])), (World.grownBy.refl _ _)⟩)))))))))))
 have i3 := of_decide_eq_false al
 iterate 4 refine Xd rfl rfl rfl al rfl ?_
 iterate 3 refine Xz rfl rfl rfl rfl ?_
 refine Xd Z Z Z al Z (Xd Z Z Z al Z ?_)
 iterate 8 refine Xz rfl rfl rfl rfl ?_
 exact Xd Z Z Z al Z (wpo_pickf (v := vb false) Z al Z Z (wpo_assign (v := vb false) Z Z (wpo_nil ⟨(congrArg Value.bool (by first | (simp only [E, O, V, ab, ag, ac, ah, ae, ai, af, am, as, au, a9, ba, bc, ap, aq, bf, bl, bm, ao, al, b0, b1, b2, b3, b4, b5, b6, b7, b8, b9]; done) | simp [E, O, V, ab, ag, ac, ah, ae, ai, af, am, as, au, a9, ba, bc, ap, aq, bf, bl, bm, ao, al])), (World.grownBy.refl _ _)⟩)))
 rintro gw jl ⟨fx, fi⟩
 refine Xk (⟨vb (((decide (m.t.kind = 4)) || (decide ((m.t.queue.length : Int) = 0))) && (((decide (m.t.kind = 5)) && inR m.t.to 1 8) || ((!(decide (m.t.kind = 5))) && (decide (m.t.to = 0))))), res1 Z fx, ?_, (low0 ea fi)⟩)
 exact congrArg Value.bool (I1 E am (Jn (p := numQ) ha (by omega)) (Jn (p := rightOk) hb (by omega)) bf)
end Go.Dw.J
end
section
namespace Go.Dw.J
open Go.RowKit Go.Dw Go.Proofs
set_option linter.unusedSectionVars false
set_option maxRecDepth 100000
set_option maxHeartbeats 4000000
set_option linter.unusedSimpArgs false
set_option linter.unusedVariables false
theorem N1 : goFn Try.prog 20 = true := by kernel_rfl
theorem N2 : goFn Try.prog 45 = true := by kernel_rfl
theorem D1 : goFn Try.prog 47 = true := by kernel_rfl
theorem D6 : goFn Try.prog 96 = true := by kernel_rfl
theorem Sq : zeroTy Try.prog 25 = some (.agg #[.int .i64 0, .int .i64 0]) := by kernel_rfl
theorem Q1 : zeroTy Try.prog 35 = some (.agg #[.int .i64 0, .int .i64 0, .int .i64 0, .int .i64 0, .int .i64 0, .slice none 0 0, .slice none 0 0, .int .i64 0]) := by kernel_rfl
theorem Sb [Comp] (w : World) (xs : List Rt) (a : Option Addr) (c : Nat) (hs : SlAt w a 5 (xs.map Rt.cells)) (hc : a = none → c = 0) (hn : xs.length ≤ 1048576) : CallsR Try.prog 96 #[.slice a xs.length c] w (fun v w' => ∃ (a' : Option Addr) (cap' : Nat), v = .slice a' xs.length cap' ∧ OwnN w.heap.size w' a' 74 5 cap' xs.length (xs.flatMap Rt.cells) ∧ w.grownBy w' none) := by
 refine Xq (n := 5) Try.func96 Z Try.ntmps96 Z ?_
 have ab := World.grownBy.refl w none
 refine Xa (wpo_assign (v := .slice none 0 0) Z Z (wpo_nil (Xa (wpo_move (v := .slice a xs.length c) Z Z (wpo_appendN (g := Rt.cells) (ys := []) (zs := xs) (lo := w.heap.size) Sg Z Y6 (by omega) Lz Z Z OwnN.nil (SlAt.low hs ab) hc (by first | omega | exact Nat.le_of_ble_eq_true rfl | (simp only [List.length_nil, List.length_cons, List.length_append, List.length_replicate]; omega)) (by omega) ab.size Z ?_)))))
 intro O E af V ac ae
 refine wpo_assign (v := .slice O xs.length E) Z Z (wpo_nil (Xk ?_))
 refine ⟨.slice O xs.length E, res1 Z Z, O, E, Z, V, (low0 ab ac)⟩
theorem Sd [Comp] (w : World) : CallsR Try.prog 47 #[.agg #[vi 0, vi 0, vb false, vb false, vb false, vi 0, vi 0, vb false, vb false, vb false, vi 0, vi 0, vb false, vb false, vb false, vi 0, vi 0, vb false, vb false, vb false]] w (fun v w' => ∃ (B cap : Nat), v = .slice (pa B) 4 cap ∧ w.heap.size ≤ B ∧ Dw.Own w' B 74 5 cap 4 (zeros4.flatMap Rt.cells) ∧ w.grownBy w' none) := by
 refine Xq (n := 5) Try.func47 Z Try.ntmps47 Z ?_
 have al := World.grownBy.refl w none
 refine Xa (wpo_box (v := .agg #[vi 0, vi 0, vb false, vb false, vb false, vi 0, vi 0, vb false, vb false, vb false, vi 0, vi 0, vb false, vb false, vb false, vi 0, vi 0, vb false, vb false, vb false]) (cs := #[vi 0, vi 0, vb false, vb false, vb false, vi 0, vi 0, vb false, vb false, vb false, vi 0, vi 0, vb false, vb false, vb false, vi 0, vi 0, vb false, vb false, vb false]) Z Z Z ?_)
 intro ag an O
 have ao := Xy O al
 have V := low0 al O.grw
 refine wpo_assign (v := .slice none 0 0) Z Z (wpo_nil (Xa ?_))
 have am : Blk an ag 77 (zeros4.flatMap Rt.cells).toArray := O.blk
 refine wpo_sliceArr Mg Z (by omega) Z (Xg D6 (Xb Z Xf) Z (Sb _ zeros4 _ _ (Q9 Y6 am) (fun h => by cases h) (by first | omega | exact Nat.le_of_ble_eq_true rfl | (simp only [List.length_nil, List.length_cons, List.length_append, List.length_replicate]; omega))) ?_)
 rintro _ ap ⟨ab, E, rfl, ac, af⟩
 have ae := OwnN.mono ac V.size
 refine wpo_assign (v := .slice ab 4 E) Z Z (wpo_nil (Xk ?_))
 obtain ⟨ah, ai, aj, ak⟩ := OwnN.some_ ae (by decide)
 refine ⟨.slice ab 4 E, res1 Z Z, ah, E, by rw [ai], aj, ak, (low0 V af)⟩
theorem Gd [Comp] (k to : Int) (l : Lab) (hk : ((decide (k = 2)) || (decide (k = 3))) = true) (hok : newOk k l to = true) (w : World) : CallsR Try.prog 17 #[vi k, .agg #[vi l.s, vi l.v], vi to] w (fun v w' => ∃ (S sc : Nat), v = .tuple #[.agg #[vi k, vi l.s, vi l.v, vi 0, vi 0, .slice (pa S) 4 sc, .slice none 0 0, vi to], vb true] ∧ w.heap.size ≤ S ∧ Dw.Own w' S 74 5 sc 4 (zeros4.flatMap Rt.cells) ∧ w.grownBy w' none) := by
 refine Xq (n := 27) Try.func17 Z Try.ntmps17 Z ?_
 have bg := World.grownBy.refl w none
 have hlit : thingOk (⟨k, l, 0, 0, zeros4, [], to⟩ : Th) = true := (Kz hk).symm.trans hok
 refine Xa (wpo_box (v := .agg #[vi l.s, vi l.v]) (cs := #[vi l.s, vi l.v]) Z Z Z ?_)
 intro bl br ah
 have bi := Xy ah bg
 have am := low0 bg ah.grw
 refine wpo_alloc (cs := #[vi 0, vi 0, vi 0, vi 0, vi 0, .slice none 0 0, .slice none 0 0, vi 0]) Q1 Z Z ?_
 intro bd bt ac
 have bj := Xy ac am
 have aq := Xn ac (ah.blk).lt
 have an := low0 am ac.grw
 refine wpo_assign (v := vb false) Z Z (wpo_nil (Xa (wpo_move (v := vi k) Z Z ?_)))
 have ap := (ah.blk.grown0 ac.grw)
 refine wpo_loadn (vs := [vi l.s, vi l.v]) Yu Z Z (ap.rangeL 0 2 Z) Z (wpo_move (v := vi to) Z Z (wpo_build (ps := [(0, vi k), (1, .agg #[vi l.s, vi l.v]), (6, vi to)]) (v := .agg #[vi k, vi l.s, vi l.v, vi 0, vi 0, .slice none 0 0, .slice none 0 0, vi to]) (Xm Z (Xm Z (Xm Z Xv))) (fun _ => by kernel_rfl) Z (wpo_alloc (cs := #[vi 0, vi 0, vi 0, vi 0, vi 0, .slice none 0 0, .slice none 0 0, vi 0]) Q1 Z Z ?_)))
 intro be bu ab
 have bk := Xy ab an
 have ar := Xn ab (ap).lt
 have au := Xn ab (ac.blk).lt
 refine wpo_storen (vs := [vi k, vi l.s, vi l.v, vi 0, vi 0, .slice none 0 0, .slice none 0 0, vi to]) (cs' := #[vi k, vi l.s, vi l.v, vi 0, vi 0, .slice none 0 0, .slice none 0 0, vi to]) Xw Z Z Z (by simp [Value.oneCell']) ab.blk (Nat.le_of_ble_eq_true Z) Z ?_
 intro bh af
 have ao := low1 (low0 an ab.grw) af.grw (by omega)
 refine wpo_nil (Xi (Xt (fun f' w' => (f' 6 = pt bd 0 ∧ f' 7 = vb false ∧ f' 8 = pt be 0 ∧ f' 18 = vb ((decide (k = 2)) || (decide (k = 3)))) ∧ bh = w') ?_ ?_))
 refine wpo_move (v := vi k) Z Z (wpo_eql (q := decide (k = 2)) Z Z Z Z (wpo_move (v := vb (decide (k = 2))) Z Z ?_))
 rcases X1 (decide (k = 2)) with O | O
 have bp := of_decide_eq_true O
 exact Xd Z Z Z O Z (Xd Z Z Z O Z (wpo_pickt (v := vb true) Z O Z Z (wpo_nil ⟨⟨Z, Z, Z, (cB (by simp [O, hk, hlit]))⟩, Z⟩)))
 have bq := of_decide_eq_false O
 exact Xc Z Z Z O (wpo_move (v := vi k) Z Z (Xc Z Z Z O (wpo_eql (q := decide (k = 3)) Z Z Z Z (wpo_pickf (v := vb (decide (k = 3))) Z O Z Z (wpo_nil ⟨⟨Z, Z, Z, (cB (by simp [O, hk, hlit]))⟩, Z⟩)))))
 rintro bn bv ⟨⟨a8, bm, al, bf⟩, rfl⟩
 refine X4 bf hk (Xo (wpo_build (ps := []) (v := .agg #[vi 0, vi 0, vb false, vb false, vb false, vi 0, vi 0, vb false, vb false, vb false, vi 0, vi 0, vb false, vb false, vb false, vi 0, vi 0, vb false, vb false, vb false]) Xv (fun _ => by kernel_rfl) Z ?_))
 have a9 := ((ac.blk.grown0 ab.grw).gn af.grw)
 refine Xg D1 (Xb Z Xf) Z (Sd _) ?_
 rintro _ bw ⟨V, E, rfl, ae, bc, ak⟩
 have az := nt ao.size ae
 have as := nl (((ap.grown0 ab.grw).gn af.grw)).lt ae
 have av := nl (a9).lt ae
 have aw := nl (af.blk).lt ae
 refine wpo_fieldAddr (o' := 5) Y4 al Z Z (wpo_store1 (v := .slice (pa V) 4 E) (cs' := #[vi k, vi l.s, vi l.v, vi 0, vi 0, .slice (pa V) 4 E, .slice none 0 0, vi to]) Je Z Z Z (af.blk.grown0 ak) (Nat.le_of_ble_eq_true Z) Z ?_)
 intro bz ag
 refine wpo_nil (Xr (Xi (Xa (wpo_loadn (vs := [vi k, vi l.s, vi l.v, vi 0, vi 0, .slice (pa V) 4 E, .slice none 0 0, vi to]) Xw al Z (ag.blk.rangeL 0 8 Z) Z ?_))))
 have ba := (bc.gn ag.grw)
 refine Xg N1 (Xb Z Xf) Z (K4 (⟨⟨k, l, 0, 0, zeros4, [], to⟩, some ⟨V, 0, none⟩, E, none, 0⟩ : MTh) _ (Own.sl Y6 ba) SlAt.nil (by first | omega | exact Nat.le_of_ble_eq_true rfl | (simp only [List.length_nil, List.length_cons, List.length_append, List.length_replicate]; omega)) (by first | omega | exact Nat.le_of_ble_eq_true rfl | (simp only [List.length_nil, List.length_cons, List.length_append, List.length_replicate]; omega))) ?_
 rintro _ ca ⟨rfl, ai⟩
 refine wpo_not (b' := !thingOk (⟨k, l, 0, 0, zeros4, [], to⟩ : Th)) Z Z Z (wpo_nil (X7 Z (Qi hlit) (Xl (Xr (Xa (wpo_loadn (vs := [vi k, vi l.s, vi l.v, vi 0, vi 0, .slice (pa V) 4 E, .slice none 0 0, vi to]) Xw al Z ((ag.blk.grown0 ai).rangeL 0 8 Z) Z (wpo_storen (vs := [vi k, vi l.s, vi l.v, vi 0, vi 0, .slice (pa V) 4 E, .slice none 0 0, vi to]) (cs' := #[vi k, vi l.s, vi l.v, vi 0, vi 0, .slice (pa V) 4 E, .slice none 0 0, vi to]) Xw a8 Z Z (by simp [Value.oneCell']) (((a9.grown0 ak).gn ag.grw).grown0 ai) (Nat.le_of_ble_eq_true Z) Z ?_)))))))
 intro cc aj
 refine wpo_assign (v := vb true) Z Z (wpo_nil (Xk ?_))
 refine ⟨.tuple #[.agg #[vi k, vi l.s, vi l.v, vi 0, vi 0, .slice (pa V) 4 E, .slice none 0 0, vi to], vb true], resCT Z (resCell_mk (vs := [vi k, vi l.s, vi l.v, vi 0, vi 0, .slice (pa V) 4 E, .slice none 0 0, vi to]) Xw a8 Z (aj.blk.rangeL 0 8 Z)) Z, V, E, Z, az, ((ba.grown0 ai).gn aj.grw), (low1 (low0 (low1 (low0 ao ak) ag.grw (by omega)) ai) aj.grw (by omega))⟩
theorem Gc [Comp] (k to : Int) (l : Lab) (hk : ((decide (k = 2)) || (decide (k = 3))) = true) (hok : newOk k l to = false) (w : World) : CallsR Try.prog 17 #[vi k, .agg #[vi l.s, vi l.v], vi to] w (fun v w' => v = .tuple #[.agg #[vi 0, vi 0, vi 0, vi 0, vi 0, .slice none 0 0, .slice none 0 0, vi 0], vb false] ∧ w.grownBy w' none) := by
 refine Xq (n := 27) Try.func17 Z Try.ntmps17 Z ?_
 have be := World.grownBy.refl w none
 have hlit : thingOk (⟨k, l, 0, 0, zeros4, [], to⟩ : Th) = false := (Kz hk).symm.trans hok
 refine Xa (wpo_box (v := .agg #[vi l.s, vi l.v]) (cs := #[vi l.s, vi l.v]) Z Z Z ?_)
 intro bk bq af
 have bg := Xy af be
 have ak := low0 be af.grw
 refine wpo_alloc (cs := #[vi 0, vi 0, vi 0, vi 0, vi 0, .slice none 0 0, .slice none 0 0, vi 0]) Q1 Z Z ?_
 intro ba br V
 have bh := Xy V ak
 have ap := Xn V (af.blk).lt
 have al := low0 ak V.grw
 refine wpo_assign (v := vb false) Z Z (wpo_nil (Xa (wpo_move (v := vi k) Z Z ?_)))
 have ao := (af.blk.grown0 V.grw)
 refine wpo_loadn (vs := [vi l.s, vi l.v]) Yu Z Z (ao.rangeL 0 2 Z) Z (wpo_move (v := vi to) Z Z (wpo_build (ps := [(0, vi k), (1, .agg #[vi l.s, vi l.v]), (6, vi to)]) (v := .agg #[vi k, vi l.s, vi l.v, vi 0, vi 0, .slice none 0 0, .slice none 0 0, vi to]) (Xm Z (Xm Z (Xm Z Xv))) (fun _ => by kernel_rfl) Z (wpo_alloc (cs := #[vi 0, vi 0, vi 0, vi 0, vi 0, .slice none 0 0, .slice none 0 0, vi 0]) Q1 Z Z ?_)))
 intro bc bt O
 have bi := Xy O al
 have aq := Xn O (ao).lt
 have as := Xn O (V.blk).lt
 refine wpo_storen (vs := [vi k, vi l.s, vi l.v, vi 0, vi 0, .slice none 0 0, .slice none 0 0, vi to]) (cs' := #[vi k, vi l.s, vi l.v, vi 0, vi 0, .slice none 0 0, .slice none 0 0, vi to]) Xw Z Z Z (by simp [Value.oneCell']) O.blk (Nat.le_of_ble_eq_true Z) Z ?_
 intro bf ae
 have am := low1 (low0 al O.grw) ae.grw (by omega)
 refine wpo_nil (Xi (Xt (fun f' w' => (f' 6 = pt ba 0 ∧ f' 7 = vb false ∧ f' 8 = pt bc 0 ∧ f' 18 = vb ((decide (k = 2)) || (decide (k = 3)))) ∧ bf = w') ?_ ?_))
 refine wpo_move (v := vi k) Z Z (wpo_eql (q := decide (k = 2)) Z Z Z Z (wpo_move (v := vb (decide (k = 2))) Z Z ?_))
 rcases X1 (decide (k = 2)) with E | E
 have bn := of_decide_eq_true E
 exact Xd Z Z Z E Z (Xd Z Z Z E Z (wpo_pickt (v := vb true) Z E Z Z (wpo_nil ⟨⟨Z, Z, Z, (cB (by simp [E, hk, hlit]))⟩, Z⟩)))
 have bp := of_decide_eq_false E
 exact Xc Z Z Z E (wpo_move (v := vi k) Z Z (Xc Z Z Z E (wpo_eql (q := decide (k = 3)) Z Z Z Z (wpo_pickf (v := vb (decide (k = 3))) Z E Z Z (wpo_nil ⟨⟨Z, Z, Z, (cB (by simp [E, hk, hlit]))⟩, Z⟩)))))
 rintro bm bu ⟨⟨aw, bl, az, bd⟩, rfl⟩
 refine X4 bd hk (Xo (wpo_build (ps := []) (v := .agg #[vi 0, vi 0, vb false, vb false, vb false, vi 0, vi 0, vb false, vb false, vb false, vi 0, vi 0, vb false, vb false, vb false, vi 0, vi 0, vb false, vb false, vb false]) Xv (fun _ => by kernel_rfl) Z ?_))
 have a8 := ((V.blk.grown0 O.grw).gn ae.grw)
 refine Xg D1 (Xb Z Xf) Z (Sd _) ?_
 rintro _ bv ⟨ai, ab, rfl, ac, a9, ah⟩
 have bj := nt am.size ac
 have ar := nl (((ao.grown0 O.grw).gn ae.grw)).lt ac
 have au := nl (a8).lt ac
 have av := nl (ae.blk).lt ac
 refine wpo_fieldAddr (o' := 5) Y4 az Z Z (wpo_store1 (v := .slice (pa ai) 4 ab) (cs' := #[vi k, vi l.s, vi l.v, vi 0, vi 0, .slice (pa ai) 4 ab, .slice none 0 0, vi to]) Je Z Z Z (ae.blk.grown0 ah) (Nat.le_of_ble_eq_true Z) Z ?_)
 intro bw ag
 refine wpo_nil (Xr (Xi (Xa (wpo_loadn (vs := [vi k, vi l.s, vi l.v, vi 0, vi 0, .slice (pa ai) 4 ab, .slice none 0 0, vi to]) Xw az Z (ag.blk.rangeL 0 8 Z) Z (Xg N1 (Xb Z Xf) Z (K4 (⟨⟨k, l, 0, 0, zeros4, [], to⟩, some ⟨ai, 0, none⟩, ab, none, 0⟩ : MTh) _ (Own.sl Y6 (a9.gn ag.grw)) SlAt.nil (by first | omega | exact Nat.le_of_ble_eq_true rfl | (simp only [List.length_nil, List.length_cons, List.length_append, List.length_replicate]; omega)) (by first | omega | exact Nat.le_of_ble_eq_true rfl | (simp only [List.length_nil, List.length_cons, List.length_append, List.length_replicate]; omega))) ?_)))))
 rintro _ bz ⟨rfl, an⟩
 refine wpo_not (b' := !thingOk (⟨k, l, 0, 0, zeros4, [], to⟩ : Th)) Z Z Z (wpo_nil (X4 Z (Ys hlit) (Xa (wpo_build (ps := []) (v := .agg #[vi 0, vi 0, vi 0, vi 0, vi 0, .slice none 0 0, .slice none 0 0, vi 0]) Xv (fun _ => by kernel_rfl) Z (wpo_storen (vs := [vi 0, vi 0, vi 0, vi 0, vi 0, .slice none 0 0, .slice none 0 0, vi 0]) (cs' := #[vi 0, vi 0, vi 0, vi 0, vi 0, .slice none 0 0, .slice none 0 0, vi 0]) Xw aw Z Z (by simp [Value.oneCell']) (((a8.grown0 ah).gn ag.grw).grown0 an) (Nat.le_of_ble_eq_true Z) Z ?_)))))
 intro ca aj
 refine wpo_assign (v := vb false) Z Z (wpo_nil (Xk (X9 ?_)))
 refine ⟨.tuple #[.agg #[vi 0, vi 0, vi 0, vi 0, vi 0, .slice none 0 0, .slice none 0 0, vi 0], vb false], resCT Z (resCell_mk (vs := [vi 0, vi 0, vi 0, vi 0, vi 0, .slice none 0 0, .slice none 0 0, vi 0]) Xw aw Z (aj.blk.rangeL 0 8 Z)) Z, Z, (low1 (low0 (low1 (low0 am ah) ag.grw (by omega)) an) aj.grw (by omega))⟩
theorem Gb [Comp] (k to : Int) (l : Lab) (hk : ((decide (k = 2)) || (decide (k = 3))) = false) (hok : newOk k l to = true) (w : World) : CallsR Try.prog 17 #[vi k, .agg #[vi l.s, vi l.v], vi to] w (fun v w' => v = .tuple #[.agg #[vi k, vi l.s, vi l.v, vi 0, vi 0, .slice none 0 0, .slice none 0 0, vi to], vb true] ∧ w.grownBy w' none) := by
 refine Xq (n := 27) Try.func17 Z Try.ntmps17 Z ?_
 have an := World.grownBy.refl w none
 have hlit : thingOk (⟨k, l, 0, 0, [], [], to⟩ : Th) = true := (Jr hk).symm.trans hok
 have ae : decide (k = 2) = false := J6 hk
 have am : decide (k = 3) = false := J7 hk
 refine Xa (wpo_box (v := .agg #[vi l.s, vi l.v]) (cs := #[vi l.s, vi l.v]) Z Z Z ?_)
 intro ar av V
 have ao := Xy V an
 have ag := low0 an V.grw
 refine wpo_alloc (cs := #[vi 0, vi 0, vi 0, vi 0, vi 0, .slice none 0 0, .slice none 0 0, vi 0]) Q1 Z Z ?_
 intro as aw E
 have ap := Xy E ag
 have ai := Xn E (V.blk).lt
 have ah := low0 ag E.grw
 refine wpo_assign (v := vb false) Z Z (wpo_nil (Xa (wpo_move (v := vi k) Z Z ?_)))
 have al := (V.blk.grown0 E.grw)
 refine wpo_loadn (vs := [vi l.s, vi l.v]) Yu Z Z (al.rangeL 0 2 Z) Z (wpo_move (v := vi to) Z Z (wpo_build (ps := [(0, vi k), (1, .agg #[vi l.s, vi l.v]), (6, vi to)]) (v := .agg #[vi k, vi l.s, vi l.v, vi 0, vi 0, .slice none 0 0, .slice none 0 0, vi to]) (Xm Z (Xm Z (Xm Z Xv))) (fun _ => by kernel_rfl) Z (wpo_alloc (cs := #[vi 0, vi 0, vi 0, vi 0, vi 0, .slice none 0 0, .slice none 0 0, vi 0]) Q1 Z Z ?_)))
 intro au az O
 have aq := Xy O ah
 have aj := Xn O (al).lt
 have ak := Xn O (E.blk).lt
 refine wpo_storen (vs := [vi k, vi l.s, vi l.v, vi 0, vi 0, .slice none 0 0, .slice none 0 0, vi to]) (cs' := #[vi k, vi l.s, vi l.v, vi 0, vi 0, .slice none 0 0, .slice none 0 0, vi to]) Xw Z Z Z (by simp [Value.oneCell']) O.blk (Nat.le_of_ble_eq_true Z) Z ?_
 intro a8 ab
 refine wpo_nil (Xi (Xa (wpo_move (v := vi k) Z Z (wpo_eql (q := decide (k = 2)) Z Z Z Z (wpo_move (v := vb (decide (k = 2))) Z Z (Xc Z Z Z ae (wpo_move (v := vi k) Z Z (Xc Z Z Z ae (wpo_eql (q := decide (k = 3)) Z Z Z Z (wpo_pickf (v := vb (decide (k = 3))) Z ae Z Z (wpo_nil (X7 Z am ?_))))))))))))
 refine Xl (Xr (Xi (Xa (wpo_loadn (vs := [vi k, vi l.s, vi l.v, vi 0, vi 0, .slice none 0 0, .slice none 0 0, vi to]) Xw Z Z (ab.blk.rangeL 0 8 Z) Z (Xg N1 (Xb Z Xf) Z (K4 (⟨⟨k, l, 0, 0, [], [], to⟩, none, 0, none, 0⟩ : MTh) _ SlAt.nil SlAt.nil (by first | omega | exact Nat.le_of_ble_eq_true rfl | (simp only [List.length_nil, List.length_cons, List.length_append, List.length_replicate]; omega)) (by first | omega | exact Nat.le_of_ble_eq_true rfl | (simp only [List.length_nil, List.length_cons, List.length_append, List.length_replicate]; omega))) ?_)))))
 rintro _ a9 ⟨rfl, ac⟩
 refine wpo_not (b' := !thingOk (⟨k, l, 0, 0, [], [], to⟩ : Th)) Z Z Z (wpo_nil (X7 Z (Qi hlit) (Xl (Xr (Xa (wpo_loadn (vs := [vi k, vi l.s, vi l.v, vi 0, vi 0, .slice none 0 0, .slice none 0 0, vi to]) Xw Z Z ((ab.blk.grown0 ac).rangeL 0 8 Z) Z (wpo_storen (vs := [vi k, vi l.s, vi l.v, vi 0, vi 0, .slice none 0 0, .slice none 0 0, vi to]) (cs' := #[vi k, vi l.s, vi l.v, vi 0, vi 0, .slice none 0 0, .slice none 0 0, vi to]) Xw Z Z Z (by simp [Value.oneCell']) (((E.blk.grown0 O.grw).gn ab.grw).grown0 ac) (Nat.le_of_ble_eq_true Z) Z ?_)))))))
 intro ba af
 refine wpo_assign (v := vb true) Z Z (wpo_nil (Xk ?_))
 refine ⟨.tuple #[.agg #[vi k, vi l.s, vi l.v, vi 0, vi 0, .slice none 0 0, .slice none 0 0, vi to], vb true], resCT Z (resCell_mk (vs := [vi k, vi l.s, vi l.v, vi 0, vi 0, .slice none 0 0, .slice none 0 0, vi to]) Xw Z Z (af.blk.rangeL 0 8 Z)) Z, Z, (low1 (low0 (low1 (low0 ah O.grw) ab.grw (by omega)) ac) af.grw (by omega))⟩
theorem Ga [Comp] (k to : Int) (l : Lab) (hk : ((decide (k = 2)) || (decide (k = 3))) = false) (hok : newOk k l to = false) (w : World) : CallsR Try.prog 17 #[vi k, .agg #[vi l.s, vi l.v], vi to] w (fun v w' => v = .tuple #[.agg #[vi 0, vi 0, vi 0, vi 0, vi 0, .slice none 0 0, .slice none 0 0, vi 0], vb false] ∧ w.grownBy w' none) := by
 refine Xq (n := 27) Try.func17 Z Try.ntmps17 Z ?_
 have an := World.grownBy.refl w none
 have hlit : thingOk (⟨k, l, 0, 0, [], [], to⟩ : Th) = false := (Jr hk).symm.trans hok
 have ac : decide (k = 2) = false := J6 hk
 have am : decide (k = 3) = false := J7 hk
 refine Xa (wpo_box (v := .agg #[vi l.s, vi l.v]) (cs := #[vi l.s, vi l.v]) Z Z Z ?_)
 intro ar av V
 have ao := Xy V an
 have af := low0 an V.grw
 refine wpo_alloc (cs := #[vi 0, vi 0, vi 0, vi 0, vi 0, .slice none 0 0, .slice none 0 0, vi 0]) Q1 Z Z ?_
 intro as aw E
 have ap := Xy E af
 have ai := Xn E (V.blk).lt
 have ag := low0 af E.grw
 refine wpo_assign (v := vb false) Z Z (wpo_nil (Xa (wpo_move (v := vi k) Z Z ?_)))
 have al := (V.blk.grown0 E.grw)
 refine wpo_loadn (vs := [vi l.s, vi l.v]) Yu Z Z (al.rangeL 0 2 Z) Z (wpo_move (v := vi to) Z Z (wpo_build (ps := [(0, vi k), (1, .agg #[vi l.s, vi l.v]), (6, vi to)]) (v := .agg #[vi k, vi l.s, vi l.v, vi 0, vi 0, .slice none 0 0, .slice none 0 0, vi to]) (Xm Z (Xm Z (Xm Z Xv))) (fun _ => by kernel_rfl) Z (wpo_alloc (cs := #[vi 0, vi 0, vi 0, vi 0, vi 0, .slice none 0 0, .slice none 0 0, vi 0]) Q1 Z Z ?_)))
 intro au az O
 have aq := Xy O ag
 have aj := Xn O (al).lt
 have ak := Xn O (E.blk).lt
 refine wpo_storen (vs := [vi k, vi l.s, vi l.v, vi 0, vi 0, .slice none 0 0, .slice none 0 0, vi to]) (cs' := #[vi k, vi l.s, vi l.v, vi 0, vi 0, .slice none 0 0, .slice none 0 0, vi to]) Xw Z Z Z (by simp [Value.oneCell']) O.blk (Nat.le_of_ble_eq_true Z) Z ?_
 intro a8 ab
 refine wpo_nil (Xi (Xa (wpo_move (v := vi k) Z Z (wpo_eql (q := decide (k = 2)) Z Z Z Z (wpo_move (v := vb (decide (k = 2))) Z Z (Xc Z Z Z ac (wpo_move (v := vi k) Z Z (Xc Z Z Z ac (wpo_eql (q := decide (k = 3)) Z Z Z Z (wpo_pickf (v := vb (decide (k = 3))) Z ac Z Z (wpo_nil (X7 Z am ?_))))))))))))
 refine Xl (Xr (Xi (Xa (wpo_loadn (vs := [vi k, vi l.s, vi l.v, vi 0, vi 0, .slice none 0 0, .slice none 0 0, vi to]) Xw Z Z (ab.blk.rangeL 0 8 Z) Z (Xg N1 (Xb Z Xf) Z (K4 (⟨⟨k, l, 0, 0, [], [], to⟩, none, 0, none, 0⟩ : MTh) _ SlAt.nil SlAt.nil (by first | omega | exact Nat.le_of_ble_eq_true rfl | (simp only [List.length_nil, List.length_cons, List.length_append, List.length_replicate]; omega)) (by first | omega | exact Nat.le_of_ble_eq_true rfl | (simp only [List.length_nil, List.length_cons, List.length_append, List.length_replicate]; omega))) ?_)))))
 rintro _ a9 ⟨rfl, ah⟩
 refine wpo_not (b' := !thingOk (⟨k, l, 0, 0, [], [], to⟩ : Th)) Z Z Z (wpo_nil (X4 Z (Ys hlit) (Xa (wpo_build (ps := []) (v := .agg #[vi 0, vi 0, vi 0, vi 0, vi 0, .slice none 0 0, .slice none 0 0, vi 0]) Xv (fun _ => by kernel_rfl) Z (wpo_storen (vs := [vi 0, vi 0, vi 0, vi 0, vi 0, .slice none 0 0, .slice none 0 0, vi 0]) (cs' := #[vi 0, vi 0, vi 0, vi 0, vi 0, .slice none 0 0, .slice none 0 0, vi 0]) Xw Z Z Z (by simp [Value.oneCell']) (((E.blk.grown0 O.grw).gn ab.grw).grown0 ah) (Nat.le_of_ble_eq_true Z) Z ?_)))))
 intro ba ae
 refine wpo_assign (v := vb false) Z Z (wpo_nil (Xk (X9 ?_)))
 refine ⟨.tuple #[.agg #[vi 0, vi 0, vi 0, vi 0, vi 0, .slice none 0 0, .slice none 0 0, vi 0], vb false], resCT Z (resCell_mk (vs := [vi 0, vi 0, vi 0, vi 0, vi 0, .slice none 0 0, .slice none 0 0, vi 0]) Xw Z Z (ae.blk.rangeL 0 8 Z)) Z, Z, (low1 (low0 (low1 (low0 ag O.grw) ab.grw (by omega)) ah) ae.grw (by omega))⟩
theorem Wo [Comp] (k to : Int) (l : Lab) (hk : ((decide (k = 2)) || (decide (k = 3))) = true) (hok : newOk k l to = true) (w : World) : CallsR Try.prog 93 #[vi k, .agg #[vi l.s, vi l.v], vi to] w (fun v w' => ∃ (S sc Q qc : Nat), v = .tuple #[.agg #[vi k, vi l.s, vi l.v, vi 0, vi 0, .slice (pa S) 4 sc, .slice (pa Q) 0 qc, vi to], vb true] ∧ w.heap.size ≤ S ∧ Dw.Own w' S 74 5 sc 4 (zeros4.flatMap Rt.cells) ∧ w.heap.size ≤ Q ∧ Dw.Own w' Q 3 1 qc 0 (([] : List Int).flatMap icell) ∧ S ≠ Q ∧ w.grownBy w' none) := by
 refine Xq (n := 24) Try.func93 Z Try.ntmps93 Z ?_
 have ca := World.grownBy.refl w none
 have hlit : thingOk (⟨k, l, 0, 0, zeros4, [], to⟩ : Th) = true := (Kz hk).symm.trans hok
 refine Xa (wpo_box (v := .agg #[vi l.s, vi l.v]) (cs := #[vi l.s, vi l.v]) Z Z Z ?_)
 intro cj cm al
 have cc := Xy al ca
 have ao := low0 ca al.grw
 refine wpo_alloc (cs := #[vi 0, vi 0, vi 0, vi 0, vi 0, .slice none 0 0, .slice none 0 0, vi 0]) Q1 Z Z ?_
 intro ck cn af
 have cd := Xy af ao
 have av := Xn af (al.blk).lt
 have ap := low0 ao af.grw
 refine wpo_assign (v := vb false) Z Z (wpo_nil (Xa (wpo_move (v := vi k) Z Z ?_)))
 have au := (al.blk.grown0 af.grw)
 refine wpo_loadn (vs := [vi l.s, vi l.v]) Yu Z Z (au.rangeL 0 2 Z) Z (wpo_buildSlice (ps := []) (e := 74) (cs := (([] : List Rt).flatMap Rt.cells).toArray) Xv (fun _ => by kernel_rfl) Z ?_)
 intro an co ac
 have ce := Xy ac ap
 have aw := Xn ac (au).lt
 have ba := Xn ac (af.blk).lt
 have aq := low0 ap ac.grw
 refine wpo_buildSlice (ps := []) (e := 3) (cs := (([] : List Int).flatMap icell).toArray) Xv (fun _ => by kernel_rfl) Z ?_
 intro ab cw V
 have bk := Xy V aq
 have bm := (au.grown0 ac.grw)
 have az := Xn V (bm).lt
 have bn := (af.blk.grown0 ac.grw)
 have bc := Xn V (bn).lt
 have bf := Xn V (ac.blk).lt
 have ar := low0 aq V.grw
 refine wpo_move (v := vi to) Z Z (wpo_build (ps := [(0, vi k), (1, .agg #[vi l.s, vi l.v]), (4, .slice (pa an) 0 0), (5, .slice (pa ab) 0 0), (6, vi to)]) (v := .agg #[vi k, vi l.s, vi l.v, vi 0, vi 0, .slice (pa an) 0 0, .slice (pa ab) 0 0, vi to]) (Xm Z (Xm Z (Xm Z (Xm Z (Xm Z Xv))))) (fun _ => by kernel_rfl) Z (wpo_alloc (cs := #[vi 0, vi 0, vi 0, vi 0, vi 0, .slice none 0 0, .slice none 0 0, vi 0]) Q1 Z Z ?_))
 intro cl cx E
 have cg := Xy E ar
 have bp := (bm.grown0 V.grw)
 have a8 := Xn E (bp).lt
 have bq := (bn.grown0 V.grw)
 have bd := Xn E (bq).lt
 have br := (ac.blk.grown0 V.grw)
 have bg := Xn E (br).lt
 have bi := Xn E (V.blk).lt
 refine wpo_storen (vs := [vi k, vi l.s, vi l.v, vi 0, vi 0, .slice (pa an) 0 0, .slice (pa ab) 0 0, vi to]) (cs' := #[vi k, vi l.s, vi l.v, vi 0, vi 0, .slice (pa an) 0 0, .slice (pa ab) 0 0, vi to]) Xw Z Z Z (by simp [Value.oneCell']) E.blk (Nat.le_of_ble_eq_true Z) Z ?_
 intro cy ag
 refine wpo_nil (Xi (Xa (wpo_move (v := vi k) Z Z (Xg Ha (Xb Z Xf) Z (J5 k _) ?_))))
 rintro _ cz ⟨rfl, ai⟩
 have as := low0 (low1 (low0 ar E.grw) ag.grw (by omega)) ai
 refine wpo_nil (X4 Z hk (Xo (wpo_make (g := Rt.cells) (z := Rt.zero) (c := 4) Sg Z Y6 (by omega) Z Z (by omega) (by omega) Z ?_)))
 intro ae da O
 have bl := Xy O as
 have a9 := Xn O ((((bp.grown0 E.grw).gn ag.grw).grown0 ai)).lt
 have bt := (((bq.grown0 E.grw).gn ag.grw).grown0 ai)
 have be := Xn O (bt).lt
 have bh := Xn O ((((br.grown0 E.grw).gn ag.grw).grown0 ai)).lt
 have bu := (((V.blk.grown0 E.grw).gn ag.grw).grown0 ai)
 have ak := Xn O (bu).lt
 have bv := (ag.blk.grown0 ai)
 have bj := Xn O (bv).lt
 refine wpo_fieldAddr (o' := 5) Y4 Z Z Z (wpo_store1 (v := .slice (pa ae) 4 4) (cs' := #[vi k, vi l.s, vi l.v, vi 0, vi 0, .slice (pa ae) 4 4, .slice (pa ab) 0 0, vi to]) Je Z Z Z (bv.grown0 O.grw) (Nat.le_of_ble_eq_true Z) Z ?_)
 intro db ah
 refine wpo_nil (Xr (Xi (Xa (wpo_loadn (vs := [vi k, vi l.s, vi l.v, vi 0, vi 0, .slice (pa ae) 4 4, .slice (pa ab) 0 0, vi to]) Xw Z Z (ah.blk.rangeL 0 8 Z) Z ?_))))
 have bw := (O.blk.gn ah.grw)
 have bz := ((bu.grown0 O.grw).gn ah.grw)
 refine Xg N2 (Xb Z Xf) Z (Ks (⟨⟨k, l, 0, 0, zeros4, [], to⟩, some ⟨ae, 0, none⟩, 4, some ⟨ab, 0, none⟩, 0⟩ : MTh) _ (Q9 Y6 bw) (Q9 Yc bz) (by first | omega | exact Nat.le_of_ble_eq_true rfl | (simp only [List.length_nil, List.length_cons, List.length_append, List.length_replicate]; omega)) (by first | omega | exact Nat.le_of_ble_eq_true rfl | (simp only [List.length_nil, List.length_cons, List.length_append, List.length_replicate]; omega))) ?_
 rintro _ dc ⟨rfl, aj⟩
 refine wpo_not (b' := !thingOk (⟨k, l, 0, 0, zeros4, [], to⟩ : Th)) Z Z Z (wpo_nil (X7 Z (Qi hlit) (Xl (Xr (Xa (wpo_loadn (vs := [vi k, vi l.s, vi l.v, vi 0, vi 0, .slice (pa ae) 4 4, .slice (pa ab) 0 0, vi to]) Xw Z Z ((ah.blk.grown0 aj).rangeL 0 8 Z) Z (wpo_storen (vs := [vi k, vi l.s, vi l.v, vi 0, vi 0, .slice (pa ae) 4 4, .slice (pa ab) 0 0, vi to]) (cs' := #[vi k, vi l.s, vi l.v, vi 0, vi 0, .slice (pa ae) 4 4, .slice (pa ab) 0 0, vi to]) Xw Z Z Z (by simp [Value.oneCell']) (((bt.grown0 O.grw).gn ah.grw).grown0 aj) (Nat.le_of_ble_eq_true Z) Z ?_)))))))
 intro de am
 refine wpo_assign (v := vb true) Z Z (wpo_nil (Xk ?_))
 refine ⟨.tuple #[.agg #[vi k, vi l.s, vi l.v, vi 0, vi 0, .slice (pa ae) 4 4, .slice (pa ab) 0 0, vi to], vb true], resCT Z (resCell_mk (vs := [vi k, vi l.s, vi l.v, vi 0, vi 0, .slice (pa ae) 4 4, .slice (pa ab) 0 0, vi to]) Xw Z Z (am.blk.rangeL 0 8 Z)) Z, ae, 4, ab, 0, Z, bl, (Own.rows Y6 ((bw.grown0 aj).gn am.grw) (by decide)), bk, (Own.rows Yc ((bz.grown0 aj).gn am.grw) (by decide)), (Nat.ne_of_gt ak), (low1 (low0 (low1 (low0 as O.grw) ah.grw (by omega)) aj) am.grw (by omega))⟩
theorem Wn [Comp] (k to : Int) (l : Lab) (hk : ((decide (k = 2)) || (decide (k = 3))) = true) (hok : newOk k l to = false) (w : World) : CallsR Try.prog 93 #[vi k, .agg #[vi l.s, vi l.v], vi to] w (fun v w' => v = .tuple #[.agg #[vi 0, vi 0, vi 0, vi 0, vi 0, .slice none 0 0, .slice none 0 0, vi 0], vb false] ∧ w.grownBy w' none) := by
 refine Xq (n := 24) Try.func93 Z Try.ntmps93 Z ?_
 have bu := World.grownBy.refl w none
 have hlit : thingOk (⟨k, l, 0, 0, zeros4, [], to⟩ : Th) = false := (Kz hk).symm.trans hok
 refine Xa (wpo_box (v := .agg #[vi l.s, vi l.v]) (cs := #[vi l.s, vi l.v]) Z Z Z ?_)
 intro ce ck ai
 have bv := Xy ai bu
 have am := low0 bu ai.grw
 refine wpo_alloc (cs := #[vi 0, vi 0, vi 0, vi 0, vi 0, .slice none 0 0, .slice none 0 0, vi 0]) Q1 Z Z ?_
 intro cg cl ac
 have bw := Xy ac am
 have au := Xn ac (ai.blk).lt
 have an := low0 am ac.grw
 refine wpo_assign (v := vb false) Z Z (wpo_nil (Xa (wpo_move (v := vi k) Z Z ?_)))
 have as := (ai.blk.grown0 ac.grw)
 refine wpo_loadn (vs := [vi l.s, vi l.v]) Yu Z Z (as.rangeL 0 2 Z) Z (wpo_buildSlice (ps := []) (e := 74) (cs := (([] : List Rt).flatMap Rt.cells).toArray) Xv (fun _ => by kernel_rfl) Z ?_)
 intro aj cm ab
 have bz := Xy ab an
 have av := Xn ab (as).lt
 have a9 := Xn ab (ac.blk).lt
 have ao := low0 an ab.grw
 refine wpo_buildSlice (ps := []) (e := 3) (cs := (([] : List Int).flatMap icell).toArray) Xv (fun _ => by kernel_rfl) Z ?_
 intro ag cn V
 have ca := Xy V ao
 have bk := (as.grown0 ab.grw)
 have aw := Xn V (bk).lt
 have bl := (ac.blk.grown0 ab.grw)
 have ba := Xn V (bl).lt
 have be := Xn V (ab.blk).lt
 have ap := low0 ao V.grw
 refine wpo_move (v := vi to) Z Z (wpo_build (ps := [(0, vi k), (1, .agg #[vi l.s, vi l.v]), (4, .slice (pa aj) 0 0), (5, .slice (pa ag) 0 0), (6, vi to)]) (v := .agg #[vi k, vi l.s, vi l.v, vi 0, vi 0, .slice (pa aj) 0 0, .slice (pa ag) 0 0, vi to]) (Xm Z (Xm Z (Xm Z (Xm Z (Xm Z Xv))))) (fun _ => by kernel_rfl) Z (wpo_alloc (cs := #[vi 0, vi 0, vi 0, vi 0, vi 0, .slice none 0 0, .slice none 0 0, vi 0]) Q1 Z Z ?_))
 intro cj co E
 have cc := Xy E ap
 have bm := (bk.grown0 V.grw)
 have az := Xn E (bm).lt
 have bn := (bl.grown0 V.grw)
 have bc := Xn E (bn).lt
 have bp := (ab.blk.grown0 V.grw)
 have bf := Xn E (bp).lt
 have bh := Xn E (V.blk).lt
 refine wpo_storen (vs := [vi k, vi l.s, vi l.v, vi 0, vi 0, .slice (pa aj) 0 0, .slice (pa ag) 0 0, vi to]) (cs' := #[vi k, vi l.s, vi l.v, vi 0, vi 0, .slice (pa aj) 0 0, .slice (pa ag) 0 0, vi to]) Xw Z Z Z (by simp [Value.oneCell']) E.blk (Nat.le_of_ble_eq_true Z) Z ?_
 intro cw ae
 refine wpo_nil (Xi (Xa (wpo_move (v := vi k) Z Z (Xg Ha (Xb Z Xf) Z (J5 k _) ?_))))
 rintro _ cx ⟨rfl, af⟩
 have aq := low0 (low1 (low0 ap E.grw) ae.grw (by omega)) af
 refine wpo_nil (X4 Z hk (Xo (wpo_make (g := Rt.cells) (z := Rt.zero) (c := 4) Sg Z Y6 (by omega) Z Z (by omega) (by omega) Z ?_)))
 intro ak cy O
 have cd := Xy O aq
 have a8 := Xn O ((((bm.grown0 E.grw).gn ae.grw).grown0 af)).lt
 have bq := (((bn.grown0 E.grw).gn ae.grw).grown0 af)
 have bd := Xn O (bq).lt
 have bg := Xn O ((((bp.grown0 E.grw).gn ae.grw).grown0 af)).lt
 have br := (((V.blk.grown0 E.grw).gn ae.grw).grown0 af)
 have bi := Xn O (br).lt
 have bt := (ae.blk.grown0 af)
 have bj := Xn O (bt).lt
 refine wpo_fieldAddr (o' := 5) Y4 Z Z Z (wpo_store1 (v := .slice (pa ak) 4 4) (cs' := #[vi k, vi l.s, vi l.v, vi 0, vi 0, .slice (pa ak) 4 4, .slice (pa ag) 0 0, vi to]) Je Z Z Z (bt.grown0 O.grw) (Nat.le_of_ble_eq_true Z) Z ?_)
 intro cz ah
 refine wpo_nil (Xr (Xi (Xa (wpo_loadn (vs := [vi k, vi l.s, vi l.v, vi 0, vi 0, .slice (pa ak) 4 4, .slice (pa ag) 0 0, vi to]) Xw Z Z (ah.blk.rangeL 0 8 Z) Z (Xg N2 (Xb Z Xf) Z (Ks (⟨⟨k, l, 0, 0, zeros4, [], to⟩, some ⟨ak, 0, none⟩, 4, some ⟨ag, 0, none⟩, 0⟩ : MTh) _ (Q9 Y6 (O.blk.gn ah.grw)) (Q9 Yc ((br.grown0 O.grw).gn ah.grw)) (by first | omega | exact Nat.le_of_ble_eq_true rfl | (simp only [List.length_nil, List.length_cons, List.length_append, List.length_replicate]; omega)) (by first | omega | exact Nat.le_of_ble_eq_true rfl | (simp only [List.length_nil, List.length_cons, List.length_append, List.length_replicate]; omega))) ?_)))))
 rintro _ da ⟨rfl, ar⟩
 refine wpo_not (b' := !thingOk (⟨k, l, 0, 0, zeros4, [], to⟩ : Th)) Z Z Z (wpo_nil (X4 Z (Ys hlit) (Xa (wpo_build (ps := []) (v := .agg #[vi 0, vi 0, vi 0, vi 0, vi 0, .slice none 0 0, .slice none 0 0, vi 0]) Xv (fun _ => by kernel_rfl) Z (wpo_storen (vs := [vi 0, vi 0, vi 0, vi 0, vi 0, .slice none 0 0, .slice none 0 0, vi 0]) (cs' := #[vi 0, vi 0, vi 0, vi 0, vi 0, .slice none 0 0, .slice none 0 0, vi 0]) Xw Z Z Z (by simp [Value.oneCell']) (((bq.grown0 O.grw).gn ah.grw).grown0 ar) (Nat.le_of_ble_eq_true Z) Z ?_)))))
 intro db al
 refine wpo_assign (v := vb false) Z Z (wpo_nil (Xk (X9 ?_)))
 refine ⟨.tuple #[.agg #[vi 0, vi 0, vi 0, vi 0, vi 0, .slice none 0 0, .slice none 0 0, vi 0], vb false], resCT Z (resCell_mk (vs := [vi 0, vi 0, vi 0, vi 0, vi 0, .slice none 0 0, .slice none 0 0, vi 0]) Xw Z Z (al.blk.rangeL 0 8 Z)) Z, Z, (low1 (low0 (low1 (low0 aq O.grw) ah.grw (by omega)) ar) al.grw (by omega))⟩
theorem Jp [Comp] (k to : Int) (l : Lab) (hk : ((decide (k = 2)) || (decide (k = 3))) = false) (hok : newOk k l to = true) (w : World) : CallsR Try.prog 93 #[vi k, .agg #[vi l.s, vi l.v], vi to] w (fun v w' => ∃ (S sc Q qc : Nat), v = .tuple #[.agg #[vi k, vi l.s, vi l.v, vi 0, vi 0, .slice (pa S) 0 sc, .slice (pa Q) 0 qc, vi to], vb true] ∧ w.heap.size ≤ S ∧ Dw.Own w' S 74 5 sc 0 (([] : List Rt).flatMap Rt.cells) ∧ w.heap.size ≤ Q ∧ Dw.Own w' Q 3 1 qc 0 (([] : List Int).flatMap icell) ∧ S ≠ Q ∧ w.grownBy w' none) := by
 refine Xq (n := 24) Try.func93 Z Try.ntmps93 Z ?_
 have bk := World.grownBy.refl w none
 have hlit : thingOk (⟨k, l, 0, 0, [], [], to⟩ : Th) = true := (Jr hk).symm.trans hok
 have bt : decide (k = 2) = false := J6 hk
 have bu : decide (k = 3) = false := J7 hk
 refine Xa (wpo_box (v := .agg #[vi l.s, vi l.v]) (cs := #[vi l.s, vi l.v]) Z Z Z ?_)
 intro bp bv aj
 have bl := Xy aj bk
 have al := low0 bk aj.grw
 refine wpo_alloc (cs := #[vi 0, vi 0, vi 0, vi 0, vi 0, .slice none 0 0, .slice none 0 0, vi 0]) Q1 Z Z ?_
 intro bq bw ae
 have bm := Xy ae al
 have aq := Xn ae (aj.blk).lt
 have am := low0 al ae.grw
 refine wpo_assign (v := vb false) Z Z (wpo_nil (Xa (wpo_move (v := vi k) Z Z ?_)))
 have ap := (aj.blk.grown0 ae.grw)
 refine wpo_loadn (vs := [vi l.s, vi l.v]) Yu Z Z (ap.rangeL 0 2 Z) Z (wpo_buildSlice (ps := []) (e := 74) (cs := (([] : List Rt).flatMap Rt.cells).toArray) Xv (fun _ => by kernel_rfl) Z ?_)
 intro V bz ac
 have ba := Xy ac am
 have ar := Xn ac (ap).lt
 have av := Xn ac (ae.blk).lt
 have an := low0 am ac.grw
 refine wpo_buildSlice (ps := []) (e := 3) (cs := (([] : List Int).flatMap icell).toArray) Xv (fun _ => by kernel_rfl) Z ?_
 intro ab ca E
 have bc := Xy E an
 have bd := (ap.grown0 ac.grw)
 have as := Xn E (bd).lt
 have be := (ae.blk.grown0 ac.grw)
 have aw := Xn E (be).lt
 have ai := Xn E (ac.blk).lt
 have ao := low0 an E.grw
 refine wpo_move (v := vi to) Z Z (wpo_build (ps := [(0, vi k), (1, .agg #[vi l.s, vi l.v]), (4, .slice (pa V) 0 0), (5, .slice (pa ab) 0 0), (6, vi to)]) (v := .agg #[vi k, vi l.s, vi l.v, vi 0, vi 0, .slice (pa V) 0 0, .slice (pa ab) 0 0, vi to]) (Xm Z (Xm Z (Xm Z (Xm Z (Xm Z Xv))))) (fun _ => by kernel_rfl) Z (wpo_alloc (cs := #[vi 0, vi 0, vi 0, vi 0, vi 0, .slice none 0 0, .slice none 0 0, vi 0]) Q1 Z Z ?_))
 intro br cc O
 have bn := Xy O ao
 have au := Xn O ((bd.grown0 E.grw)).lt
 have bf := (be.grown0 E.grw)
 have az := Xn O (bf).lt
 have bg := (ac.blk.grown0 E.grw)
 have a8 := Xn O (bg).lt
 have a9 := Xn O (E.blk).lt
 refine wpo_storen (vs := [vi k, vi l.s, vi l.v, vi 0, vi 0, .slice (pa V) 0 0, .slice (pa ab) 0 0, vi to]) (cs' := #[vi k, vi l.s, vi l.v, vi 0, vi 0, .slice (pa V) 0 0, .slice (pa ab) 0 0, vi to]) Xw Z Z Z (by simp [Value.oneCell']) O.blk (Nat.le_of_ble_eq_true Z) Z ?_
 intro cd af
 refine wpo_nil (Xi (Xa (wpo_move (v := vi k) Z Z (Xg Ha (Xb Z Xf) Z (J5 k _) ?_))))
 rintro _ ce ⟨rfl, ag⟩
 refine wpo_nil (X7 Z hk (Xl (Xr (Xi (Xa ?_)))))
 have bh := (af.blk.grown0 ag)
 refine wpo_loadn (vs := [vi k, vi l.s, vi l.v, vi 0, vi 0, .slice (pa V) 0 0, .slice (pa ab) 0 0, vi to]) Xw Z Z (bh.rangeL 0 8 Z) Z ?_
 have bi := (((bg.grown0 O.grw).gn af.grw).grown0 ag)
 have bj := (((E.blk.grown0 O.grw).gn af.grw).grown0 ag)
 refine Xg N2 (Xb Z Xf) Z (Ks (⟨⟨k, l, 0, 0, [], [], to⟩, some ⟨V, 0, none⟩, 0, some ⟨ab, 0, none⟩, 0⟩ : MTh) _ (Q9 Y6 bi) (Q9 Yc bj) (by first | omega | exact Nat.le_of_ble_eq_true rfl | (simp only [List.length_nil, List.length_cons, List.length_append, List.length_replicate]; omega)) (by first | omega | exact Nat.le_of_ble_eq_true rfl | (simp only [List.length_nil, List.length_cons, List.length_append, List.length_replicate]; omega))) ?_
 rintro _ cg ⟨rfl, ah⟩
 refine wpo_not (b' := !thingOk (⟨k, l, 0, 0, [], [], to⟩ : Th)) Z Z Z (wpo_nil (X7 Z (Qi hlit) (Xl (Xr (Xa (wpo_loadn (vs := [vi k, vi l.s, vi l.v, vi 0, vi 0, .slice (pa V) 0 0, .slice (pa ab) 0 0, vi to]) Xw Z Z ((bh.grown0 ah).rangeL 0 8 Z) Z (wpo_storen (vs := [vi k, vi l.s, vi l.v, vi 0, vi 0, .slice (pa V) 0 0, .slice (pa ab) 0 0, vi to]) (cs' := #[vi k, vi l.s, vi l.v, vi 0, vi 0, .slice (pa V) 0 0, .slice (pa ab) 0 0, vi to]) Xw Z Z Z (by simp [Value.oneCell']) ((((bf.grown0 O.grw).gn af.grw).grown0 ag).grown0 ah) (Nat.le_of_ble_eq_true Z) Z ?_)))))))
 intro cj ak
 refine wpo_assign (v := vb true) Z Z (wpo_nil (Xk ?_))
 refine ⟨.tuple #[.agg #[vi k, vi l.s, vi l.v, vi 0, vi 0, .slice (pa V) 0 0, .slice (pa ab) 0 0, vi to], vb true], resCT Z (resCell_mk (vs := [vi k, vi l.s, vi l.v, vi 0, vi 0, .slice (pa V) 0 0, .slice (pa ab) 0 0, vi to]) Xw Z Z (ak.blk.rangeL 0 8 Z)) Z, V, 0, ab, 0, Z, ba, (Own.rows Y6 ((bi.grown0 ah).gn ak.grw) (by decide)), bc, (Own.rows Yc ((bj.grown0 ah).gn ak.grw) (by decide)), (Nat.ne_of_lt ai), (low1 (low0 (low0 (low1 (low0 ao O.grw) af.grw (by omega)) ag) ah) ak.grw (by omega))⟩
theorem Wm [Comp] (k to : Int) (l : Lab) (hk : ((decide (k = 2)) || (decide (k = 3))) = false) (hok : newOk k l to = false) (w : World) : CallsR Try.prog 93 #[vi k, .agg #[vi l.s, vi l.v], vi to] w (fun v w' => v = .tuple #[.agg #[vi 0, vi 0, vi 0, vi 0, vi 0, .slice none 0 0, .slice none 0 0, vi 0], vb false] ∧ w.grownBy w' none) := by
 refine Xq (n := 24) Try.func93 Z Try.ntmps93 Z ?_
 have bf := World.grownBy.refl w none
 have hlit : thingOk (⟨k, l, 0, 0, [], [], to⟩ : Th) = false := (Jr hk).symm.trans hok
 have bp : decide (k = 2) = false := J6 hk
 have bq : decide (k = 3) = false := J7 hk
 refine Xa (wpo_box (v := .agg #[vi l.s, vi l.v]) (cs := #[vi l.s, vi l.v]) Z Z Z ?_)
 intro bl br ah
 have bg := Xy ah bf
 have aj := low0 bf ah.grw
 refine wpo_alloc (cs := #[vi 0, vi 0, vi 0, vi 0, vi 0, .slice none 0 0, .slice none 0 0, vi 0]) Q1 Z Z ?_
 intro bm bt ab
 have bh := Xy ab aj
 have ap := Xn ab (ah.blk).lt
 have ak := low0 aj ab.grw
 refine wpo_assign (v := vb false) Z Z (wpo_nil (Xa (wpo_move (v := vi k) Z Z ?_)))
 have ao := (ah.blk.grown0 ab.grw)
 refine wpo_loadn (vs := [vi l.s, vi l.v]) Yu Z Z (ao.rangeL 0 2 Z) Z (wpo_buildSlice (ps := []) (e := 74) (cs := (([] : List Rt).flatMap Rt.cells).toArray) Xv (fun _ => by kernel_rfl) Z ?_)
 intro af bu V
 have bi := Xy V ak
 have aq := Xn V (ao).lt
 have au := Xn V (ab.blk).lt
 have al := low0 ak V.grw
 refine wpo_buildSlice (ps := []) (e := 3) (cs := (([] : List Int).flatMap icell).toArray) Xv (fun _ => by kernel_rfl) Z ?_
 intro ag bv E
 have bj := Xy E al
 have ba := (ao.grown0 V.grw)
 have ar := Xn E (ba).lt
 have bc := (ab.blk.grown0 V.grw)
 have av := Xn E (bc).lt
 have az := Xn E (V.blk).lt
 have am := low0 al E.grw
 refine wpo_move (v := vi to) Z Z (wpo_build (ps := [(0, vi k), (1, .agg #[vi l.s, vi l.v]), (4, .slice (pa af) 0 0), (5, .slice (pa ag) 0 0), (6, vi to)]) (v := .agg #[vi k, vi l.s, vi l.v, vi 0, vi 0, .slice (pa af) 0 0, .slice (pa ag) 0 0, vi to]) (Xm Z (Xm Z (Xm Z (Xm Z (Xm Z Xv))))) (fun _ => by kernel_rfl) Z (wpo_alloc (cs := #[vi 0, vi 0, vi 0, vi 0, vi 0, .slice none 0 0, .slice none 0 0, vi 0]) Q1 Z Z ?_))
 intro bn bw O
 have bk := Xy O am
 have as := Xn O ((ba.grown0 E.grw)).lt
 have bd := (bc.grown0 E.grw)
 have aw := Xn O (bd).lt
 have be := (V.blk.grown0 E.grw)
 have a8 := Xn O (be).lt
 have a9 := Xn O (E.blk).lt
 refine wpo_storen (vs := [vi k, vi l.s, vi l.v, vi 0, vi 0, .slice (pa af) 0 0, .slice (pa ag) 0 0, vi to]) (cs' := #[vi k, vi l.s, vi l.v, vi 0, vi 0, .slice (pa af) 0 0, .slice (pa ag) 0 0, vi to]) Xw Z Z Z (by simp [Value.oneCell']) O.blk (Nat.le_of_ble_eq_true Z) Z ?_
 intro bz ac
 refine wpo_nil (Xi (Xa (wpo_move (v := vi k) Z Z (Xg Ha (Xb Z Xf) Z (J5 k _) ?_))))
 rintro _ ca ⟨rfl, ae⟩
 refine wpo_nil (X7 Z hk (Xl (Xr (Xi (Xa (wpo_loadn (vs := [vi k, vi l.s, vi l.v, vi 0, vi 0, .slice (pa af) 0 0, .slice (pa ag) 0 0, vi to]) Xw Z Z ((ac.blk.grown0 ae).rangeL 0 8 Z) Z (Xg N2 (Xb Z Xf) Z (Ks (⟨⟨k, l, 0, 0, [], [], to⟩, some ⟨af, 0, none⟩, 0, some ⟨ag, 0, none⟩, 0⟩ : MTh) _ (Q9 Y6 (((be.grown0 O.grw).gn ac.grw).grown0 ae)) (Q9 Yc (((E.blk.grown0 O.grw).gn ac.grw).grown0 ae)) (by first | omega | exact Nat.le_of_ble_eq_true rfl | (simp only [List.length_nil, List.length_cons, List.length_append, List.length_replicate]; omega)) (by first | omega | exact Nat.le_of_ble_eq_true rfl | (simp only [List.length_nil, List.length_cons, List.length_append, List.length_replicate]; omega))) ?_)))))))
 rintro _ cc ⟨rfl, an⟩
 refine wpo_not (b' := !thingOk (⟨k, l, 0, 0, [], [], to⟩ : Th)) Z Z Z (wpo_nil (X4 Z (Ys hlit) (Xa (wpo_build (ps := []) (v := .agg #[vi 0, vi 0, vi 0, vi 0, vi 0, .slice none 0 0, .slice none 0 0, vi 0]) Xv (fun _ => by kernel_rfl) Z (wpo_storen (vs := [vi 0, vi 0, vi 0, vi 0, vi 0, .slice none 0 0, .slice none 0 0, vi 0]) (cs' := #[vi 0, vi 0, vi 0, vi 0, vi 0, .slice none 0 0, .slice none 0 0, vi 0]) Xw Z Z Z (by simp [Value.oneCell']) ((((bd.grown0 O.grw).gn ac.grw).grown0 ae).grown0 an) (Nat.le_of_ble_eq_true Z) Z ?_)))))
 intro cd ai
 refine wpo_assign (v := vb false) Z Z (wpo_nil (Xk (X9 ?_)))
 refine ⟨.tuple #[.agg #[vi 0, vi 0, vi 0, vi 0, vi 0, .slice none 0 0, .slice none 0 0, vi 0], vb false], resCT Z (resCell_mk (vs := [vi 0, vi 0, vi 0, vi 0, vi 0, .slice none 0 0, .slice none 0 0, vi 0]) Xw Z Z (ai.blk.rangeL 0 8 Z)) Z, Z, (low1 (low0 (low0 (low1 (low0 am O.grw) ac.grw (by omega)) ae) an) ai.grw (by omega))⟩
end Go.Dw.J
end
section
namespace Go.Dw.J
open Go.RowKit Go.Dw Go.Proofs
set_option linter.unusedSectionVars false
set_option maxRecDepth 100000
set_option maxHeartbeats 4000000
set_option linter.unusedSimpArgs false
set_option linter.unusedVariables false
theorem Hc [Comp] (p : Int) (hp : 0 ≤ p ∧ p ≤ 1000000000000) (lo R : Nat) (bs : List Int) (a : Option Addr) (c : Nat) (w : World) (hR : Blk w R 97 #[.slice a bs.length c, vi p]) (hlo : lo ≤ R) (hs : SlLt lo w a 1 (bs.map bcell)) (hb : ∀ b ∈ bs, 0 ≤ b ∧ b ≤ 255) (hn : bs.length ≤ 1048576) : CallsR Try.prog 36 #[pt R 0] w (fun v w' => ∃ (l : Lab) (p' : Int), v = .agg #[vi l.s, vi l.v] ∧ -1 ≤ l.s ∧ l.s ≤ 4 ∧ 0 ≤ l.v ∧ l.v ≤ 3 ∧ p ≤ p' ∧ p' ≤ p + 4 ∧ Blk w' R 97 #[.slice a bs.length c, vi p'] ∧ w.grownBy w' (some R)) := by
 refine Xq (n := 25) Try.func36 Z Try.ntmps36 Z ?_
 have ij := World.grownBy.refl w (some R)
 have hRlt := hR.lt
 refine Xa (wpo_alloc (cs := #[vi 0, vi 0]) Sq Z Z ?_)
 intro de dk bd
 have me := Xy bd ij
 have ft := Xn bd (hR).lt
 have bm := low0 ij bd.grw
 refine wpo_nil (Xi ?_)
 have il := (hR.grown0 bd.grw)
 refine J1 (m := 12) [[], [], [1], [0, 1, 2], [0, 1, 2, 3], [], [], [1, 2, 6], [1, 2, 5, 6, 7], [1, 2, 5, 6, 7, 8], [0, 1, 2, 3, 4, 5, 6, 7, 8, 9], [], [0, 1, 2, 3, 4, 5, 6, 7, 8, 9, 10, 11]] (fun S F w' => ∃ (ae : Nat) (ag : Int) (ac : Int) (af : Nat) (ah : Int) (ab : Int) (ai : Nat), dk.grownBy w' (some R) ∧ F 0 = pt R 0 ∧ F 2 = pt de 0 ∧ (S 2 = false → Blk w' R 97 #[.slice a bs.length c, vi p]) ∧ (S 0 = true → F 4 = .slice (pa ae) 5 5 ∧ w.heap.size ≤ ae ∧ Blk w' ae 3 (([0, 0, 1, 2, 3] : List Int).flatMap icell).toArray ∧ R < ae ∧ de < ae ∧ dk.heap.size ≤ ae) ∧ (S 1 = true → F 5 = pt R 0) ∧ (S 2 = true → F 6 = vi ag ∧ 0 ≤ ag ∧ (ag < 5 ∨ ag = 0) ∧ (S 7 = false → Blk w' R 97 #[.slice a bs.length c, vi (p + 1)])) ∧ (S 3 = true → F 7 = pt ae ((ag).toNat * 1)) ∧ (S 4 = true → F 8 = vi ac ∧ ([0, 0, 1, 2, 3] : List Int)[(ag).toNat]? = some ac ∧ (ac = 0 ∨ ac = 0 ∨ ac = 1 ∨ ac = 2 ∨ ac = 3)) ∧ (S 5 = true → F 9 = .slice (pa af) 4 4 ∧ w.heap.size ≤ af ∧ Blk w' af 3 (([0, 0, 3, 1] : List Int).flatMap icell).toArray ∧ R < af ∧ de < af ∧ dk.heap.size ≤ af) ∧ (S 6 = true → F 10 = pt R 0) ∧ (S 7 = true → F 11 = vi ah ∧ 0 ≤ ah ∧ (ah < 4 ∨ ah = 0) ∧ Blk w' R 97 #[.slice a bs.length c, vi (p + 1 + 1)]) ∧ (S 8 = true → F 12 = pt af ((ah).toNat * 1)) ∧ (S 9 = true → F 13 = vi ab ∧ ([0, 0, 3, 1] : List Int)[(ah).toNat]? = some ab ∧ (ab = 0 ∨ ab = 0 ∨ ab = 3 ∨ ab = 1)) ∧ (S 10 = true → F 14 = .agg #[vi ac, vi ab]) ∧ (S 11 = true → F 3 = pt ai 0 ∧ w.heap.size ≤ ai ∧ Blk w' ai 25 #[vi 0, vi 0] ∧ R < ai ∧ de < ai ∧ dk.heap.size ≤ ai) ∧ (S 0 = true → S 5 = true → ae ≠ af) ∧ (S 0 = true → S 11 = true → ae ≠ ai) ∧ (S 5 = true → S 11 = true → af ≠ ai)) Q4 (by kernel_rfl) ⟨0, 0, 0, 0, 0, 0, 0, X5 _, Z, Z, fun _ => (il).grown0 (X5 _), X6, X6, X6, X6, X6, X6, X6, X6, X6, X6, X6, X6, X6, X6, X6⟩ ?_ ?_
 refine Xp (fun S F n8 hS hbef hcl hI => ?_) ?_
 obtain ⟨ae, ag, ac, af, ah, ab, ai, ce, fz, f7, c_old_R, al, ak, am, au, az, an, ao, as, a8, bc, aw, aj, E, O, V⟩ := hI
 refine wpo_buildSlice (ps := [(0, vi 0), (1, vi 0), (2, vi 1), (3, vi 2), (4, vi 3)]) (e := 3) (cs := (([0, 0, 1, 2, 3] : List Int).flatMap icell).toArray) (Xm Z (Xm Z (Xm Z (Xm Z (Xm Z Xv))))) (fun _ => by kernel_rfl) Z ?_
 intro fw n9 ap
 have d9 := Xy ap (Xe bm ce)
 have bt := Xn ap ((bd.blk.gn ce)).lt
 exact wpo_nil ⟨fw, ag, ac, af, ah, ab, ai, (low0 ce ap.grw), fz, f7, fun h => (c_old_R h).grown0 ap.grw, fun _ => ⟨Z, d9, ap.blk, (by omega), bt, (nt ce.size ap.ge)⟩, ak, fun h => let ⟨iq, ir, is, it⟩ := am h; ⟨iq, ir, is, fun hn => (it hn).grown0 ap.grw⟩, Xh 3 hS hcl Z, Xh 4 hS hcl Z, fun h => let ⟨iu, iv, iw, ix, iy, iz⟩ := an h; ⟨iu, iv, (iw).grown0 ap.grw, ix, iy, iz⟩, ao, fun h => let ⟨i0, i1, i2, i3⟩ := as h; ⟨i0, i1, i2, (i3).grown0 ap.grw⟩, a8, bc, Xh 10 hS hcl Z, fun h => let ⟨i4, i5, i6, i7, i8, i9⟩ := aj h; ⟨i4, i5, (i6).grown0 ap.grw, i7, i8, i9⟩, fun _ h => let ⟨pb, pc, ja, pe, pf, pg⟩ := an h; Nat.ne_of_gt (nl (ja).lt ap.ge), fun _ h => let ⟨pi, pj, jb, pk, pl, pm⟩ := aj h; Nat.ne_of_gt (nl (jb).lt ap.ge), V⟩
 refine Xp (fun S F oa hS hbef hcl hI => ?_) ?_
 obtain ⟨ae, ag, ac, af, ah, ab, ai, eu, ee, f8, c_old_R, al, ak, am, au, az, an, ao, as, a8, bc, aw, aj, E, O, V⟩ := hI
 exact wpo_move (v := pt R 0) ee Z (wpo_nil ⟨ae, ag, ac, af, ah, ab, ai, eu, ee, f8, fun h => c_old_R h, al, fun _ => Z, Xh 2 hS hcl Z, Xh 3 hS hcl Z, Xh 4 hS hcl Z, an, ao, Xh 7 hS hcl Z, Xh 8 hS hcl Z, Xh 9 hS hcl Z, Xh 10 hS hcl Z, aj, E, O, V⟩)
 refine Xp (fun S F oc hS hbef hcl hI => ?_) ?_
 obtain ⟨ae, ag, ac, af, ah, ab, ai, dp, f9, gb, c_old_R, al, ak, am, au, az, an, ao, as, a8, bc, aw, aj, E, O, V⟩ := hI
 obtain gc := ak (Xj 1 hbef rfl)
 refine Xg Y7 (Xb gc (Xb Z Xf)) Z (Yi p 5 (by omega) _ R bs _ _ _ (c_old_R hS) (by omega) (SlLt.low1 hs (Xe bm dp) hlo) (by first | exact hb | exact fun b h => hb b (List.mem_of_mem_take h)) (by first | omega | (rw [List.length_take]; omega))) ?_
 rintro _ oe ⟨im, rfl, fc, fd, fm, ca⟩
 exact wpo_nil ⟨ae, im, ac, af, ah, ab, ai, (Xe dp ca), f9, gb, fun h => Q0 h, fun h => let ⟨jc, jd, je, jf, jg, jh⟩ := al h; ⟨jc, jd, (je).gn ca, jf, jg, jh⟩, ak, fun _ => ⟨Z, fc, fd, fun _ => fm⟩, Xh 3 hS hcl Z, Xh 4 hS hcl Z, fun h => let ⟨ji, jj, jk, jl, jm, jo⟩ := an h; ⟨ji, jj, (jk).gn ca, jl, jm, jo⟩, ao, Xh 7 hS hcl Z, Xh 8 hS hcl Z, Xh 9 hS hcl Z, Xh 10 hS hcl Z, fun h => let ⟨jp, jq, jr, js, jt, ju⟩ := aj h; ⟨jp, jq, (jr).gn ca, js, jt, ju⟩, E, O, V⟩
 refine Xp (fun S F oh hS hbef hcl hI => ?_) ?_
 obtain ⟨ae, ag, ac, af, ah, ab, ai, ew, gf, gg, c_old_R, al, ak, am, au, az, an, ao, as, a8, bc, aw, aj, E, O, V⟩ := hI
 obtain ⟨gh, ck, bf, bk, a9, bq⟩ := al (Xj 0 hbef rfl)
 obtain mq := ak (Xj 1 hbef rfl)
 obtain ⟨gi, bn, bp, bj⟩ := am (Xj 2 hbef rfl)
 exact wpo_indexAddr (o' := (ag).toNat * 1) Kx gh gi (by omega) (by omega) (by omega) Z (wpo_nil ⟨ae, ag, ac, af, ah, ab, ai, ew, gf, gg, fun hn => Q0 ((Xj 2 hbef Z).symm.trans hn), al, ak, am, fun _ => Z, Xh 4 hS hcl Z, an, ao, as, a8, bc, Xh 10 hS hcl Z, aj, E, O, V⟩)
 refine Xp (fun S F ol hS hbef hcl hI => ?_) ?_
 obtain ⟨ae, ag, ac, af, ah, ab, ai, ex, gj, gl, c_old_R, al, ak, am, au, az, an, ao, as, a8, bc, aw, aj, E, O, V⟩ := hI
 obtain ⟨mr, ck, bf, bk, a9, bq⟩ := al (Xj 0 hbef rfl)
 obtain mt := ak (Xj 1 hbef rfl)
 obtain ⟨mu, bn, bp, bj⟩ := am (Xj 2 hbef rfl)
 obtain gm := au (Xj 3 hbef rfl)
 obtain ⟨ej, da⟩ := Qo (l := ([0, 0, 1, 2, 3] : List Int)) (i := (ag).toNat) (lq (ag).toNat 5)
 have dr := List.mem_of_getElem? da
 simp only [List.mem_cons, List.not_mem_nil, or_false] at dr
 exact wpo_load1 (v := vi ej) X0 gm ((Ji Yc bf da) 0 _ Z) Z (wpo_nil ⟨ae, ag, ej, af, ah, ab, ai, ex, gj, gl, fun hn => Q0 ((Xj 2 hbef Z).symm.trans hn), al, ak, am, au, fun _ => ⟨Z, da, dr⟩, an, ao, as, a8, bc, Xh 10 hS hcl Z, aj, E, O, V⟩)
 refine Xp (fun S F om hS hbef hcl hI => ?_) ?_
 obtain ⟨ae, ag, ac, af, ah, ab, ai, cg, gp, gq, c_old_R, al, ak, am, au, az, an, ao, as, a8, bc, aw, aj, E, O, V⟩ := hI
 refine wpo_buildSlice (ps := [(0, vi 0), (1, vi 0), (2, vi 3), (3, vi 1)]) (e := 3) (cs := (([0, 0, 3, 1] : List Int).flatMap icell).toArray) (Xm Z (Xm Z (Xm Z (Xm Z Xv)))) (fun _ => by kernel_rfl) Z ?_
 intro fx oq aq
 have ea := Xy aq (Xe bm cg)
 have bu := Xn aq ((bd.blk.gn cg)).lt
 exact wpo_nil ⟨ae, ag, ac, fx, ah, ab, ai, (low0 cg aq.grw), gp, gq, fun h => (c_old_R h).grown0 aq.grw, fun h => let ⟨jv, jw, jy, jz, j1, j2⟩ := al h; ⟨jv, jw, (jy).grown0 aq.grw, jz, j1, j2⟩, ak, fun h => let ⟨j3, j4, j5, j6⟩ := am h; ⟨j3, j4, j5, fun hn => (j6 hn).grown0 aq.grw⟩, au, az, fun _ => ⟨Z, ea, aq.blk, (by omega), bu, (nt cg.size aq.ge)⟩, ao, fun h => let ⟨j7, j8, j9, ka⟩ := as h; ⟨j7, j8, j9, (ka).grown0 aq.grw⟩, Xh 8 hS hcl Z, Xh 9 hS hcl Z, Xh 10 hS hcl Z, fun h => let ⟨kb, kc, ke, kf, kg, kh⟩ := aj h; ⟨kb, kc, (ke).grown0 aq.grw, kf, kg, kh⟩, fun h _ => let ⟨pn, po, ki, pp, pq, pu⟩ := al h; Nat.ne_of_lt (nl (ki).lt aq.ge), O, fun _ h => let ⟨pw, px, kl, py, p0, p8⟩ := aj h; Nat.ne_of_gt (nl (kl).lt aq.ge)⟩
 refine Xp (fun S F ot hS hbef hcl hI => ?_) ?_
 obtain ⟨ae, ag, ac, af, ah, ab, ai, ey, ef, gr, c_old_R, al, ak, am, au, az, an, ao, as, a8, bc, aw, aj, E, O, V⟩ := hI
 exact wpo_move (v := pt R 0) ef Z (wpo_nil ⟨ae, ag, ac, af, ah, ab, ai, ey, ef, gr, fun h => c_old_R h, al, ak, am, au, az, an, fun _ => Z, Xh 7 hS hcl Z, Xh 8 hS hcl Z, Xh 9 hS hcl Z, Xh 10 hS hcl Z, aj, E, O, V⟩)
 refine Xp (fun S F ou hS hbef hcl hI => ?_) ?_
 obtain ⟨ae, ag, ac, af, ah, ab, ai, dq, gt, gu, c_old_R, al, ak, am, au, az, an, ao, as, a8, bc, aw, aj, E, O, V⟩ := hI
 obtain mv := ak (Xj 1 hbef rfl)
 obtain ⟨mw, bn, bp, bj⟩ := am (Xj 2 hbef rfl)
 obtain gv := ao (Xj 6 hbef rfl)
 refine Xg Y7 (Xb gv (Xb Z Xf)) Z (Yi (p + 1) 4 (by omega) _ R bs _ _ _ (bj hS) (by omega) (SlLt.low1 hs (Xe bm dq) hlo) (by first | exact hb | exact fun b h => hb b (List.mem_of_mem_take h)) (by first | omega | (rw [List.length_take]; omega))) ?_
 rintro _ ov ⟨io, rfl, fe, ff, fp, cc⟩
 exact wpo_nil ⟨ae, ag, ac, af, io, ab, ai, (Xe dq cc), gt, gu, fun hn => Q0 ((Xj 2 hbef Z).symm.trans hn), fun h => let ⟨km, ko, kp, kq, kr, ks⟩ := al h; ⟨km, ko, (kp).gn cc, kq, kr, ks⟩, ak, fun h => let ⟨kt, ku, kv, p9⟩ := am h; ⟨kt, ku, kv, fun h => Q0 h⟩, au, az, fun h => let ⟨kw, kx, ky, kz, k0, la⟩ := an h; ⟨kw, kx, (ky).gn cc, kz, k0, la⟩, ao, fun _ => ⟨Z, fe, ff, fp⟩, Xh 8 hS hcl Z, Xh 9 hS hcl Z, Xh 10 hS hcl Z, fun h => let ⟨lc, ld, lf, lg, lh, li⟩ := aj h; ⟨lc, ld, (lf).gn cc, lg, lh, li⟩, E, O, V⟩
 refine Xp (fun S F ow hS hbef hcl hI => ?_) ?_
 obtain ⟨ae, ag, ac, af, ah, ab, ai, ez, gw, gx, c_old_R, al, ak, am, au, az, an, ao, as, a8, bc, aw, aj, E, O, V⟩ := hI
 obtain my := ak (Xj 1 hbef rfl)
 obtain ⟨mz, bn, bp, bj⟩ := am (Xj 2 hbef rfl)
 obtain ⟨gy, cl, bg, bl, ba, br⟩ := an (Xj 5 hbef rfl)
 obtain m3 := ao (Xj 6 hbef rfl)
 obtain ⟨gz, cy, cz, cm⟩ := as (Xj 7 hbef rfl)
 exact wpo_indexAddr (o' := (ah).toNat * 1) Kx gy gz (by omega) (by omega) (by omega) Z (wpo_nil ⟨ae, ag, ac, af, ah, ab, ai, ez, gw, gx, fun hn => Q0 ((Xj 2 hbef Z).symm.trans hn), al, ak, am, au, az, an, ao, as, fun _ => Z, Xh 9 hS hcl Z, Xh 10 hS hcl Z, aj, E, O, V⟩)
 refine Xp (fun S F ox hS hbef hcl hI => ?_) ?_
 obtain ⟨ae, ag, ac, af, ah, ab, ai, fa, g4, g7, c_old_R, al, ak, am, au, az, an, ao, as, a8, bc, aw, aj, E, O, V⟩ := hI
 obtain m4 := ak (Xj 1 hbef rfl)
 obtain ⟨m5, bn, bp, bj⟩ := am (Xj 2 hbef rfl)
 obtain ⟨m6, cl, bg, bl, ba, br⟩ := an (Xj 5 hbef rfl)
 obtain m7 := ao (Xj 6 hbef rfl)
 obtain ⟨m8, cy, cz, cm⟩ := as (Xj 7 hbef rfl)
 obtain g8 := a8 (Xj 8 hbef rfl)
 obtain ⟨ek, db⟩ := Qo (l := ([0, 0, 3, 1] : List Int)) (i := (ah).toNat) (lq (ah).toNat 4)
 have dt := List.mem_of_getElem? db
 simp only [List.mem_cons, List.not_mem_nil, or_false] at dt
 exact wpo_load1 (v := vi ek) X0 g8 ((Ji Yc bg db) 0 _ Z) Z (wpo_nil ⟨ae, ag, ac, af, ah, ek, ai, fa, g4, g7, fun hn => Q0 ((Xj 2 hbef Z).symm.trans hn), al, ak, am, au, az, an, ao, as, a8, fun _ => ⟨Z, db, dt⟩, Xh 10 hS hcl Z, aj, E, O, V⟩)
 refine Xp (fun S F oy hS hbef hcl hI => ?_) ?_
 obtain ⟨ae, ag, ac, af, ah, ab, ai, fb, g9, ia, c_old_R, al, ak, am, au, az, an, ao, as, a8, bc, aw, aj, E, O, V⟩ := hI
 obtain ⟨m9, ck, bf, bk, a9, bq⟩ := al (Xj 0 hbef rfl)
 obtain na := ak (Xj 1 hbef rfl)
 obtain ⟨nb, bn, bp, bj⟩ := am (Xj 2 hbef rfl)
 obtain nc := au (Xj 3 hbef rfl)
 obtain ⟨ib, fj, fg⟩ := az (Xj 4 hbef rfl)
 obtain ⟨nd, cl, bg, bl, ba, br⟩ := an (Xj 5 hbef rfl)
 obtain nf := ao (Xj 6 hbef rfl)
 obtain ⟨ng, cy, cz, cm⟩ := as (Xj 7 hbef rfl)
 obtain nh := a8 (Xj 8 hbef rfl)
 obtain ⟨ic, fk, fh⟩ := bc (Xj 9 hbef rfl)
 have bw := E (Xj 0 hbef rfl) (Xj 5 hbef rfl)
 exact wpo_build (ps := [(0, vi ac), (1, vi ab)]) (v := .agg #[vi ac, vi ab]) (Xm ib (Xm ic Xv)) (fun _ => by kernel_rfl) Z (wpo_nil ⟨ae, ag, ac, af, ah, ab, ai, fb, g9, ia, fun hn => Q0 ((Xj 2 hbef Z).symm.trans hn), al, ak, am, au, az, an, ao, as, a8, bc, fun _ => Z, aj, E, O, V⟩)
 refine Xp (fun S F oz hS hbef hcl hI => ?_) ?_
 obtain ⟨ae, ag, ac, af, ah, ab, ai, cj, ie, ig, c_old_R, al, ak, am, au, az, an, ao, as, a8, bc, aw, aj, E, O, V⟩ := hI
 refine wpo_alloc (cs := #[vi 0, vi 0]) Sq Z Z ?_
 intro fy o0 ar
 have ed := Xy ar (Xe bm cj)
 have bv := Xn ar ((bd.blk.gn cj)).lt
 exact wpo_nil ⟨ae, ag, ac, af, ah, ab, fy, (low0 cj ar.grw), ie, ig, fun h => (c_old_R h).grown0 ar.grw, fun h => let ⟨lj, lk, ll, lm, ln, lu⟩ := al h; ⟨lj, lk, (ll).grown0 ar.grw, lm, ln, lu⟩, ak, fun h => let ⟨lv, lw, lx, ly⟩ := am h; ⟨lv, lw, lx, fun hn => (ly hn).grown0 ar.grw⟩, au, az, fun h => let ⟨lz, l0, l3, l4, l5, l6⟩ := an h; ⟨lz, l0, (l3).grown0 ar.grw, l4, l5, l6⟩, ao, fun h => let ⟨l7, l8, l9, ma⟩ := as h; ⟨l7, l8, l9, (ma).grown0 ar.grw⟩, a8, bc, aw, fun _ => ⟨Z, ed, ar.blk, (by omega), bv, (nt cj.size ar.ge)⟩, E, fun h _ => let ⟨qd, qe, mb, qf, qg, qi⟩ := al h; Nat.ne_of_lt (nl (mb).lt ar.ge), fun h _ => let ⟨qj, qk, mc, qn, qo, qq⟩ := an h; Nat.ne_of_lt (nl (mc).lt ar.ge)⟩
 exact Ka
 intro S F o1 hall hI
 obtain ⟨ae, ag, ac, af, ah, ab, ai, cx, eg, dh, c_old_R, al, ak, am, au, az, an, ao, as, a8, bc, aw, aj, E, O, V⟩ := hI
 obtain ⟨ni, ck, bf, bk, a9, bq⟩ := al (hall 0 (by decide))
 obtain nj := ak (hall 1 (by decide))
 obtain ⟨nk, bn, bp, bj⟩ := am (hall 2 (by decide))
 obtain np := au (hall 3 (by decide))
 obtain ⟨nq, fj, fg⟩ := az (hall 4 (by decide))
 obtain ⟨nu, cl, bg, bl, ba, br⟩ := an (hall 5 (by decide))
 obtain nw := ao (hall 6 (by decide))
 obtain ⟨nx, cy, cz, cm⟩ := as (hall 7 (by decide))
 obtain ny := a8 (hall 8 (by decide))
 obtain ⟨nz, fk, fh⟩ := bc (hall 9 (by decide))
 obtain ii := aw (hall 10 (by decide))
 obtain ⟨di, mf, dw, fu, dx, ik⟩ := aj (hall 11 (by decide))
 have bw := E (hall 0 (by decide)) (hall 5 (by decide))
 have d7 := O (hall 0 (by decide)) (hall 11 (by decide))
 have d8 := V (hall 5 (by decide)) (hall 11 (by decide))
 refine wpo_storen (vs := [vi ac, vi ab]) (cs' := #[vi ac, vi ab]) Yu di ii Z (by simp [Value.oneCell']) dw (Nat.le_of_ble_eq_true Z) Z ?_
 intro o3 be
 have dm := low1 (Xe bm cx) be.grw (by omega)
 refine wpo_nil (Xr (Xi (Xa (wpo_move (v := pt R 0) eg Z (Xg Y7 (Xb Z (Xb Z Xf)) Z (Yi (p + 1 + 1) 60 (by omega) _ R bs _ _ _ (cm.gn be.grw) (by omega) (SlLt.low1 hs dm hlo) (by first | exact hb | exact fun b h => hb b (List.mem_of_mem_take h)) (by first | omega | (rw [List.length_take]; omega))) ?_)))))
 rintro _ o4 ⟨ip, rfl, mh, ml, dc, bi⟩
 have cw := Xe dm bi
 refine wpo_eql (q := decide (ip = 0)) Z Z Z Z (wpo_nil (Xs Z (fun dl => ?_) (fun dl => ?_)))
 have n5 := of_decide_eq_true dl
 refine Xo (wpo_buildSlice (ps := [(0, vi (-1)), (1, vi 4)]) (e := 3) (cs := (([(-1), 4] : List Int).flatMap icell).toArray) (Xm Z (Xm Z Xv)) (fun _ => by kernel_rfl) Z ?_)
 intro mp o5 av
 have mg := Xy av cw
 have eh := (((bd.blk.gn cx).gn be.grw).gn bi)
 have dz := Xn av (eh).lt
 have d0 := Xn av (((bf.gn be.grw).gn bi)).lt
 have d5 := Xn av (((bg.gn be.grw).gn bi)).lt
 have fv := Xn av (dc).lt
 have ei := (be.blk.gn bi)
 have d6 := Xn av (ei).lt
 have dn := low0 cw av.grw
 refine wpo_move (v := pt R 0) eg Z (Xg Y7 (Xb Z (Xb Z Xf)) Z (Yi (p + 1 + 1 + 1) 2 (by omega) _ R bs _ _ _ (dc.grown0 av.grw) (by omega) (SlLt.low1 hs dn hlo) (by first | exact hb | exact fun b h => hb b (List.mem_of_mem_take h)) (by first | omega | (rw [List.length_take]; omega))) ?_)
 rintro _ o6 ⟨dv, rfl, mn, mo, fq, cd⟩
 refine wpo_indexAddr (o' := (dv).toNat * 1) Kx Z Z (by omega) (by omega) (by omega) Z ?_
 obtain ⟨bh, du⟩ := Qo (l := ([(-1), 4] : List Int)) (i := (dv).toNat) (lq (dv).toNat 2)
 have fi := List.mem_of_getElem? du
 simp only [List.mem_cons, List.not_mem_nil, or_false] at fi
 refine wpo_load1 (v := vi bh) X0 Z ((Ji Yc (av.blk.gn cd) du) 0 _ Z) Z (wpo_fieldAddr (o' := 0) Va di Z Z (wpo_store1 (v := vi bh) (cs' := #[vi bh, vi ab]) X0 Z Z Z ((ei.grown0 av.grw).gn cd) (Nat.le_of_ble_eq_true Z) Z ?_))
 intro o7 bz
 refine wpo_nil (Xr (Xa (wpo_loadn (vs := [vi bh, vi ab]) Yu di Z (bz.blk.rangeL 0 2 Z) Z (wpo_storen (vs := [vi bh, vi ab]) (cs' := #[vi bh, vi ab]) Yu dh Z Z (by simp [Value.oneCell']) (((eh.grown0 av.grw).gn cd).gn bz.grw) (Nat.le_of_ble_eq_true Z) Z ?_))))
 intro o8 cn
 refine wpo_nil (Xk ?_)
 refine ⟨.agg #[vi bh, vi ab], resC Z (resCell_mk (vs := [vi bh, vi ab]) Yu dh Z (cn.blk.rangeL 0 2 Z)), ⟨bh, ab⟩, (p + 1 + 1 + 1 + 1), Z, show (-1 : Int) ≤ bh by omega, show bh ≤ (4 : Int) by omega, show (0 : Int) ≤ ab by omega, show ab ≤ (3 : Int) by omega, by omega, by omega, ((fq.gn bz.grw).gn cn.grw), (low1 (low1 (Xe dn cd) bz.grw (by omega)) cn.grw (by omega))⟩
 have n7 := of_decide_eq_false dl
 refine Xl (Xr (Xa (wpo_loadn (vs := [vi ac, vi ab]) Yu di Z ((be.blk.gn bi).rangeL 0 2 Z) Z (wpo_storen (vs := [vi ac, vi ab]) (cs' := #[vi ac, vi ab]) Yu dh Z Z (by simp [Value.oneCell']) (((bd.blk.gn cx).gn be.grw).gn bi) (Nat.le_of_ble_eq_true Z) Z ?_))))
 intro o9 co
 refine wpo_nil (Xk ?_)
 refine ⟨.agg #[vi ac, vi ab], resC Z (resCell_mk (vs := [vi ac, vi ab]) Yu dh Z (co.blk.rangeL 0 2 Z)), ⟨ac, ab⟩, (p + 1 + 1 + 1), Z, show (-1 : Int) ≤ ac by omega, show ac ≤ (4 : Int) by omega, show (0 : Int) ≤ ab by omega, show ab ≤ (3 : Int) by omega, by omega, by omega, (dc.gn co.grw), (low1 cw co.grw (by omega))⟩
end Go.Dw.J
end
