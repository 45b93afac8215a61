/- Laws and walks: my templates, and what a program of mine (gen.py) printed out of the functions; only what the row reaches. -/
import Derived.Test.YtldnkinaedgnpaaVH1
section
namespace Go.Dw.J
open Go.Dw Go.Conc Go.RowKit
set_option linter.unusedVariables false
set_option linter.unusedSimpArgs false
section
variable {P : Program}
theorem Gh {t : TypeId} {xs : Array Value} {o : Nat} (h : xs.toList.all atom = true) : Yields P (fun v => flat1 v = true) (part t xs o) := by
  have h' : ∀ v ∈ xs.toList, atom v = true := List.all_eq_true.1 h
  unfold part
  have hc : ∀ b, Yields P (fun v => flat1 v = true) (if b = true then (do pure (Value.agg (xs.extract o (o + (← sizeOf t)))) : Sem Value) else match xs[o]? with | some v => pure v | none => stuck "part: no such cell") := fun b => by
    split
    · show Yields P _ (Sem.bind (Sem.bind (Sem.program fun p => _) _) _)
      simp only [Sem.bind, Yields]
      cases hi : P.info? t with
      | none => trivial
      | some i =>
        show flat1 (.agg _) = true
        simp only [flat1, List.all_eq_true]
        intro v hv
        refine h' v ?_
        simp only [Array.toList_extract, List.extract_eq_take_drop] at hv
        exact List.mem_of_mem_drop (List.mem_of_mem_take hv)
    · split
      · rename_i v hv
        have : atom v = true := h' v (Array.mem_toList_iff.2 (Array.mem_of_getElem? hv))
        show flat1 v = true
        unfold flat1
        cases v <;> first | exact this | (simp [atom] at this)
      · trivial
  have h1 : ∀ b, Yields P (fun v => flat1 v = true) ((pure b : Sem Bool) >>= fun b => if b = true then (do pure (Value.agg (xs.extract o (o + (← sizeOf t)))) : Sem Value) else match xs[o]? with | some v => pure v | none => stuck "part: no such cell") := hc
  unfold isAgg
  show Yields P _ (Sem.bind (Sem.bind (Sem.program fun p => _) _) _)
  simp only [Sem.bind, Yields]
  cases hu : P.underlying t with
  | none => trivial
  | some d =>
    show Yields P _ (Sem.bind (match d with | .struct _ | .array _ _ => pure true | _ => pure false) _)
    split <;> first | exact hc true | exact hc false
theorem Ho {α β : Type} {g : α → β → Sem (ForInStep β)} (hg : ∀ a b, Quiet P (g a b)) : ∀ (l : List α) (b : β), Quiet P (forIn l b g)
  | [], b => by rw [List.forIn_nil]; trivial
  | a :: l, b => by
    rw [List.forIn_cons]
    refine qb (hg a b) fun r => ?_
    cases r with
    | done b => trivial
    | yield b => exact Ho hg l b
theorem Hn {α β : Type} {g : α → β → Sem (ForInStep β)} (hg : ∀ a b, Quiet P (g a b)) (l : Array α) (b : β) : Quiet P (forIn l b g) := by
  rw [← Array.forIn_toList]
  exact Ho hg _ _
theorem Pt {β : Type} {g : Nat → β → Sem (ForInStep β)} (hg : ∀ a b, Quiet P (g a b)) (r : Std.Legacy.Range) (b : β) : Quiet P (forIn r b g) := by
  rw [Std.Legacy.Range.forIn_eq_forIn_range']
  exact Ho hg _ _
theorem Uo : ∀ (d : Nat) (t : TypeId) (x y : Value), flat1 x = true → flat1 y = true → Quiet P (Op.equalIn d t x y)
  | 0, _, _, _, _, _ => trivial
  | d + 1, t, x, y, hx, hy => by
    unfold Op.equalIn
    refine qb (X3 t) fun u => ?_
    split <;> first
      | exact qp _
      | exact Y8 _
      | (simp [flat1, atom] at hx; done)
      | (simp [flat1, atom] at hy; done)
      | (split <;> first | exact qp _ | exact Y8 _)
      | skip
    · rename_i fields xs ys
      refine qb Yu fun p => ?_
      dsimp only
      split
      · refine qb (Yc _) fun _ => ?_
        refine qb (Hn (fun f r => ?_) _ _) fun r => ?_
        · split
          · refine qby (Qu _ _ _) (Gh hx) fun a ha => qby (Qu _ _ _) (Gh hy) fun b hb => qb (Uo d _ a b ha hb) fun e => ?_
            split <;> exact qp _
          · exact qp _
        · split <;> exact qp _
      · refine qb (Hn (fun f r => ?_) _ _) fun r => ?_
        · split
          · refine qby (Qu _ _ _) (Gh hx) fun a ha => qby (Qu _ _ _) (Gh hy) fun b hb => qb (Uo d _ a b ha hb) fun e => ?_
            split <;> exact qp _
          · exact qp _
        · split <;> exact qp _
    · rename_i len elem xs ys
      refine qb (Yx _) fun m => ?_
      refine qb (Pt (fun f r => ?_) _ _) fun r => ?_
      · refine qby (Qu _ _ _) (Gh hx) fun a ha => qby (Qu _ _ _) (Gh hy) fun b hb => qb (Uo d _ a b ha hb) fun e => ?_
        split <;> exact qp _
      · dsimp only
        split <;> exact qp _
theorem V8 : ∀ (d : Nat) (t : TypeId) (x y : Value), Quiet P (Op.eqGuardIn d t x y)
  | 0, _, _, _ => trivial
  | d + 1, t, x, y => by
    unfold Op.eqGuardIn
    refine qb (X3 t) fun u => ?_
    split
    · exact qp _
    · refine qb (Hn (fun f r => ?_) _ _) fun r => ?_
      · split
        · refine qb (Qu _ _ _) fun a => qb (Qu _ _ _) fun b => qb (V8 d _ a b) fun e => ?_
          split <;> exact qp _
        · exact qp _
      · dsimp only
        split <;> exact qp _
    · refine qb (Yx _) fun m => ?_
      refine qb (Pt (fun f r => ?_) _ _) fun r => ?_
      · refine qb (Qu _ _ _) fun a => qb (Qu _ _ _) fun b => qb (V8 d _ a b) fun e => ?_
        split <;> exact qp _
      · dsimp only
        split <;> exact qp _
    · exact qp _
theorem T5 (op : BinOp) (t : TypeId) (x y : Operand) (a b : Value) : Quiet P (eqGuard op t x y a b) := by
  unfold eqGuard
  repeat' (first | with_reducible exact qp _ | with_reducible exact Y8 _ | with_reducible exact Yc _ | with_reducible exact Y3 _ | with_reducible exact qh _ | with_reducible exact Yu | with_reducible exact Qt _ | with_reducible exact Jk _ | with_reducible exact Q5 _ _ | with_reducible exact Yw _ | with_reducible exact X3 _ | with_reducible exact Yq _ | with_reducible exact Yx _ | with_reducible exact Q1 _ | with_reducible exact Yl _ _ | with_reducible exact Yf _ _ _ | with_reducible exact Y4 _ _ | with_reducible exact Yz _ _ _ | with_reducible exact Qo _ _ | with_reducible exact Qf _ _ | with_reducible exact Qn _ | with_reducible exact X6 _ | with_reducible exact Qe _ | with_reducible exact Jd _ | with_reducible exact Qm _ | with_reducible exact Qs _ | with_reducible exact Yv _ | with_reducible exact Qu _ _ _ | with_reducible exact Yi _ _ _ _ | with_reducible exact Qy _ | with_reducible exact V8 _ _ _ _ | with_reducible refine qb ?_ (fun _ => ?_) | with_reducible refine qm _ ?_ | split | dsimp only)
theorem Sa (op : BinOp) (k : IntKind) (x y : Int) : Quiet P (Op.intArith op k x y) := by
  unfold Op.intArith
  split <;> trivial
theorem Ce (op : BinOp) (k : IntKind) (x y : Int) : Quiet P (Op.intDiv op k x y) := by
  unfold Op.intDiv
  repeat' (first | with_reducible exact qp _ | with_reducible exact Y8 _ | with_reducible exact Yc _ | with_reducible exact Y3 _ | with_reducible exact qh _ | with_reducible exact Yu | with_reducible exact Qt _ | with_reducible exact Jk _ | with_reducible exact Q5 _ _ | with_reducible exact Yw _ | with_reducible exact X3 _ | with_reducible exact Yq _ | with_reducible exact Yx _ | with_reducible exact Q1 _ | with_reducible exact Yl _ _ | with_reducible exact Yf _ _ _ | with_reducible exact Y4 _ _ | with_reducible exact Yz _ _ _ | with_reducible exact Qo _ _ | with_reducible exact Qf _ _ | with_reducible exact Qn _ | with_reducible exact X6 _ | with_reducible exact Qe _ | with_reducible exact Jd _ | with_reducible exact Qm _ | with_reducible exact Qs _ | with_reducible exact Yv _ | with_reducible exact Qu _ _ _ | with_reducible exact Yi _ _ _ _ | with_reducible exact Qy _ | with_reducible refine qb ?_ (fun _ => ?_) | with_reducible refine qm _ ?_ | split | dsimp only)
theorem T9 (op : BinOp) (k : IntKind) (x y : Int) : Quiet P (Op.intBits op k x y) := by
  unfold Op.intBits
  dsimp only
  split <;> trivial
theorem Cd (op : BinOp) (x y : Int) : Quiet P (Op.intCmp op x y) := by
  unfold Op.intCmp
  split <;> trivial
theorem Dy (op : BinOp) (k yk : IntKind) (x y : Int) : Quiet P (Op.shift op k x yk y) := by
  unfold Op.shift
  repeat' (first | with_reducible exact qp _ | with_reducible exact Y8 _ | with_reducible exact Yc _ | with_reducible exact Y3 _ | with_reducible exact qh _ | with_reducible exact Yu | with_reducible exact Qt _ | with_reducible exact Jk _ | with_reducible exact Q5 _ _ | with_reducible exact Yw _ | with_reducible exact X3 _ | with_reducible exact Yq _ | with_reducible exact Yx _ | with_reducible exact Q1 _ | with_reducible exact Yl _ _ | with_reducible exact Yf _ _ _ | with_reducible exact Y4 _ _ | with_reducible exact Yz _ _ _ | with_reducible exact Qo _ _ | with_reducible exact Qf _ _ | with_reducible exact Qn _ | with_reducible exact X6 _ | with_reducible exact Qe _ | with_reducible exact Jd _ | with_reducible exact Qm _ | with_reducible exact Qs _ | with_reducible exact Yv _ | with_reducible exact Qu _ _ _ | with_reducible exact Yi _ _ _ _ | with_reducible exact Qy _ | with_reducible refine qb ?_ (fun _ => ?_) | with_reducible refine qm _ ?_ | split | dsimp only)
theorem Sc (op : BinOp) (x y : ByteArray) : Quiet P (Op.stringOp op x y) := by
  unfold Op.stringOp
  repeat' (first | with_reducible exact qp _ | with_reducible exact Y8 _ | with_reducible exact Yc _ | with_reducible exact Y3 _ | with_reducible exact qh _ | with_reducible exact Yu | with_reducible exact Qt _ | with_reducible exact Jk _ | with_reducible exact Q5 _ _ | with_reducible exact Yw _ | with_reducible exact X3 _ | with_reducible exact Yq _ | with_reducible exact Yx _ | with_reducible exact Q1 _ | with_reducible exact Yl _ _ | with_reducible exact Yf _ _ _ | with_reducible exact Y4 _ _ | with_reducible exact Yz _ _ _ | with_reducible exact Qo _ _ | with_reducible exact Qf _ _ | with_reducible exact Qn _ | with_reducible exact X6 _ | with_reducible exact Qe _ | with_reducible exact Jd _ | with_reducible exact Qm _ | with_reducible exact Qs _ | with_reducible exact Yv _ | with_reducible exact Qu _ _ _ | with_reducible exact Yi _ _ _ _ | with_reducible exact Qy _ | with_reducible refine qb ?_ (fun _ => ?_) | with_reducible refine qm _ ?_ | split | dsimp only)
theorem Dt (op : BinOp) (t : TypeId) (x y : Value) (hx : flat1 x = true) (hy : flat1 y = true) : Quiet P (binOp op t x y) := by
  have he : Quiet P (Op.equal t x y) := Uo _ t x y hx hy
  unfold binOp
  split <;> first
    | exact Dy _ _ _ _ _
    | (split
       · exact Y8 _
       · split <;> first | exact Sa _ _ _ _ | exact Ce _ _ _ _ | exact T9 _ _ _ _ | exact Cd _ _ _)
    | exact Sc _ _ _
    | exact qb he fun _ => qp _
    | exact Yc _
    | exact Y8 _
    | (simp [flat1, atom] at hx; done)
    | (simp [flat1, atom] at hy; done)
variable {f : Fr} {d : Option Nat} {ty : TypeId} {pos : String} {aft : Array Edge} {g : Option (Nat × Bool)}
theorem qv {s : Sem Value} (h : Quiet P s) : Quiet P (do pure (Next.value (← s)) : Sem Next) := qb h fun _ => trivial
theorem Kd {bo : BinOp} {xt yt : TypeId} {x y : Operand} (hx : flat1 (ev f x) = true) (hy : flat1 (ev f y) = true) : Quiet P (execOp (ev f) ⟨d, .binOp bo xt x y yt, ty, pos, aft, g⟩) :=
  qv (qb (T5 ..) fun _ => Dt _ _ _ _ hx hy)
theorem Nb (a : Addr) (fl : Field) (i : TypeInfo) (hi : P.info? fl.type = some i) (h0 : ¬ i.size = 0) : Quiet P (fieldPlace a fl) := by
  unfold fieldPlace
  refine qby (Yx _) (C6 hi) fun m hm => ?_
  subst hm
  rw [if_neg h0]
  exact qp _
theorem T7 {s k j : Nat} (h : fieldOff P s k = some j) (v : Value) : Quiet P (Instr.fieldAt s v k) := by
  unfold fieldOff at h
  split at h
  · rename_i fs hu
    split at h
    · rename_i fl hfl
      split at h
      · rename_i i hi
        split at h
        · cases h
        · rename_i hz
          unfold Instr.fieldAt
          refine qby (X3 _) (J9 hu) fun u hu => ?_
          subst hu
          simp only [hfl]
          exact qb (Yv _) fun a => qb (Nb a fl i hi hz) fun _ => qp _
      · cases h
    · cases h
  · cases h
theorem I9 {t et : TypeId} {x : Value} (h : ∀ r, x ≠ .map (some r) ∧ x ≠ .chan (some r)) : Quiet P (Builtin.len_ #[t] et #[x]) := by
  unfold Builtin.len_
  simp only [List.getElem?_toArray, List.getElem?_cons_zero]
  refine qb (X3 _) fun u => ?_
  split <;> first
    | exact qp _
    | exact Y8 _
    | exact absurd rfl (h _).1
    | exact absurd rfl (h _).2
    | repeat' (first | with_reducible exact qp _ | with_reducible exact Y8 _ | with_reducible exact Yc _ | with_reducible exact Y3 _ | with_reducible exact qh _ | with_reducible exact Yu | with_reducible exact Qt _ | with_reducible exact Jk _ | with_reducible exact Q5 _ _ | with_reducible exact Yw _ | with_reducible exact X3 _ | with_reducible exact Yq _ | with_reducible exact Yx _ | with_reducible exact Q1 _ | with_reducible exact Yl _ _ | with_reducible exact Yf _ _ _ | with_reducible exact Y4 _ _ | with_reducible exact Yz _ _ _ | with_reducible exact Qo _ _ | with_reducible exact Qf _ _ | with_reducible exact Qn _ | with_reducible exact X6 _ | with_reducible exact Qe _ | with_reducible exact Jd _ | with_reducible exact Qm _ | with_reducible exact Qs _ | with_reducible exact Yv _ | with_reducible exact Qu _ _ _ | with_reducible exact Yi _ _ _ _ | with_reducible exact Qy _ | with_reducible refine qb ?_ (fun _ => ?_) | with_reducible refine qm _ ?_ | split | dsimp only)
theorem Sb (k : IntKind) (n : Int) : Quiet P (Conv.intToInt k n) := trivial
theorem T4 {s t : TypeId} {k k' : IntKind} {a : Int} (hs : (P.underlying s).isSome = true) (ht : P.underlying t = some (.int k')) : Quiet P (convert s t (.int k a)) := by
  obtain ⟨ds, hs'⟩ := Option.isSome_iff_exists.1 hs
  unfold convert
  refine qby (X3 _) (J9 hs') fun u hu => qby (X3 _) (J9 ht) fun u2 hu2 => ?_
  subst hu
  subst hu2
  cases u <;> exact Sb _ _
theorem Nc (size n : Nat) (v : Value) : Quiet P (Builtin.firstCells size n v) := by
  unfold Builtin.firstCells
  split
  · exact Yl _ _
  · exact qp _
  · exact qp _
  · exact Y8 _
theorem Dx (v : Value) : Quiet P (Builtin.lenOf v) := by
  unfold Builtin.lenOf
  split <;> first | exact qp _ | exact Y8 _
theorem H3 (size sLen n : Nat) (base : Option Addr) (x : Value) : Look (Builtin.mayShare size sLen n base x) := by
  unfold Builtin.mayShare
  cases base with
  | some a => trivial
  | none =>
    show Look (match x with | .slice (some b) _ _ => _ | _ => _)
    split <;> trivial
theorem N5 {α : Type} (r : Bool) (u : Unsupported) : Dead P (if (!r) = true then mark .noRoom >>= fun _ => unsupported u else unsupported u : Sem α) := by
  cases r <;> trivial
theorem Nd {α : Type} (r : Bool) (u : Unsupported) : Quiet P (if (!r) = true then mark .noRoom >>= fun _ => unsupported u else unsupported u : Sem α) := by
  cases r
  · exact Or.inl ⟨rfl, trivial⟩
  · trivial
theorem Hm {t e et : TypeId} (hu : P.underlying t = some (.slice e)) (x y : Value) : Quiet P (Builtin.append_ #[t, t] et #[x, y]) := by
  unfold Builtin.append_
  simp only [List.getElem?_toArray, List.getElem?_cons_zero, List.getElem?_cons_succ]
  refine qby (X3 _) (J9 hu) fun u hu' => ?_
  subst hu'
  dsimp only
  split
  · rename_i base sLen sCap
    refine qb (Yx _) fun size => ?_
    refine qby (X3 _) (J9 hu) fun u hu' => ?_
    subst hu'
    refine qby (R := (· = false)) (qp _) rfl fun z hz => ?_
    subst hz
    simp only [Bool.false_eq_true, if_false, Bool.not_false, if_true, false_or]
    repeat' (first | with_reducible exact qp _ | with_reducible exact Y8 _ | with_reducible exact Yc _ | with_reducible exact Y3 _ | with_reducible exact qh _ | with_reducible exact Yu | with_reducible exact Qt _ | with_reducible exact Jk _ | with_reducible exact Q5 _ _ | with_reducible exact Yw _ | with_reducible exact X3 _ | with_reducible exact Yq _ | with_reducible exact Yx _ | with_reducible exact Q1 _ | with_reducible exact Yl _ _ | with_reducible exact Yf _ _ _ | with_reducible exact Y4 _ _ | with_reducible exact Yz _ _ _ | with_reducible exact Qo _ _ | with_reducible exact Qf _ _ | with_reducible exact Qn _ | with_reducible exact X6 _ | with_reducible exact Qe _ | with_reducible exact Jd _ | with_reducible exact Qm _ | with_reducible exact Qs _ | with_reducible exact Yv _ | with_reducible exact Qu _ _ _ | with_reducible exact Yi _ _ _ _ | with_reducible exact Qy _ | with_reducible exact Nc _ _ _ | with_reducible exact Dx _ | with_reducible exact Sd (fun r => Nd r _) (fun r => N5 r _) (H3 _ _ _ _ _) | with_reducible refine qb ?_ (fun _ => ?_) | with_reducible refine qm _ ?_ | split | dsimp only)
  · exact Y8 _
end
end Go.Dw.J
end
section
namespace Go.Dw
section
variable {ts : List Th} {q : Cl}
def Like (a b : Th) : Prop := b.kind = a.kind ∧ b.lab = a.lab ∧ b.to = a.to ∧ a.ve ≤ b.ve
theorem Like.refl (a : Th) : Like a a := ⟨rfl, rfl, rfl, Int.le_refl _⟩
theorem Like.trans {a b c : Th} (h : Like a b) (k : Like b c) : Like a c := ⟨k.1.trans h.1, k.2.1.trans h.2.1, k.2.2.1.trans h.2.2.1, Int.le_trans h.2.2.2 k.2.2.2⟩
theorem TabG.nil {lo : Nat} {w : World} {a : Option Addr} : TabG lo w a [] := ⟨fun k x h => by simp at h, fun m hm => by cases hm⟩
end
end Go.Dw
end
section
namespace Go.Dw
set_option linter.unusedVariables false
set_option linter.unusedSimpArgs false
section
variable {ts : List Th} {q : Cl}
def Kept (n : Int) (a b : Th) : Prop := (a.kind = 1 → b.num = a.num ∨ b.num = 0 ∨ b.num = n ∨ b.num = n % 2) ∧ ∀ v ∈ b.queue, v = n ∨ v ∈ a.queue
theorem Kept.refl (n : Int) (a : Th) : Kept n a a := ⟨fun _ => Or.inl rfl, fun _ h => Or.inr h⟩
section
variable {ms xs : List MTh}
end
end
end Go.Dw
end
section
namespace Go.Dw
set_option linter.unusedVariables false
set_option linter.unusedSimpArgs false
def RowsA (w : World) (l : List MTh) : Prop := ∀ m ∈ l, ThAt w m
theorem RowsA.of {w : World} {a : Option Addr} {l : List MTh} (h : TabAt w a l) : RowsA w l := h.2
theorem RowsA.set {w : World} {l : List MTh} {i : Nat} {m : MTh} (h : RowsA w l) (hi : i < l.length) (e : m.sa = (mAt l i).sa ∧ m.sc = (mAt l i).sc ∧ m.qa = (mAt l i).qa ∧ m.qc = (mAt l i).qc ∧ m.t.slots = (mAt l i).t.slots ∧ m.t.queue = (mAt l i).t.queue) : RowsA w (l.set i m) := fun x hx => by
  rcases List.mem_or_eq_of_mem_set hx with h1 | rfl
  · exact h x h1
  · have := h _ (List.mem_of_getElem? (Xz hi))
    unfold ThAt at this ⊢
    rw [e.1, e.2.1, e.2.2.1, e.2.2.2.1, e.2.2.2.2.1, e.2.2.2.2.2]
    exact this
theorem TabLen.put {l : List MTh} {i : Nat} {m : MTh} (h : TabLen l) (hm : m.t.slots.length ≤ 1048576 ∧ m.t.queue.length ≤ 1048576) : TabLen (l.set i m) := fun x hx => by
  rcases List.mem_or_eq_of_mem_set hx with h1 | rfl
  · exact h x h1
  · exact hm
section
variable {ms xs : List MTh} {q : Cl}
end
end Go.Dw
end
section
namespace Go.Dw
open Go.RowKit
set_option linter.unusedVariables false
structure NewO (w w' : World) (B : Nat) (T : TypeId) (sz cap n : Nat) (vs : List Value) : Prop where
  eq : B = w.heap.size
  own : Own w' B T sz cap n vs
  grw : w.grownBy w' none
section
variable {P : Program} {n : Nat} {ops : Array Oper} {K : Fr → World → Prop} {l : List Oper} {f : Fr} {w w' : World} {d : Nat} {ty : TypeId} {pos : String} {aft : Array Edge}
theorem wpo_append0 {α : Type} {g : α → List Value} {t e sz bytes c B : Nat} {z : Value} {x y : Operand} {ay : Option Addr} {zs : List α} (ht : mkTy P t = some (e, sz, bytes, some z)) (hz : z.cells.size = sz) (hg : Wide g sz) (h0 : 0 < sz)
    (hx : ev f x = .slice (some ⟨B, 0, none⟩) 0 0) (hy : ev f y = .slice ay zs.length c) (hs : SlAt w ay sz (zs.map g)) (hn : 0 < zs.length) (hm : zs.length ≤ 1099511627776) (hb : bytes ≤ 128) (hd : Nat.blt d n = true)
    (h : ∀ Y cap' w', NewO w w' Y e sz cap' zs.length (zs.flatMap g) → WpO P n ops K l (up f d (.slice (some ⟨Y, 0, none⟩) zs.length cap')) w') :
    WpO P n ops K (⟨some d, .call ⟨.builtin .append, #[x, y], #[t, t]⟩, ty, pos, aft, none⟩ :: l) f w := by
  unfold mkTy at ht
  split at ht
  · rename_i el hu
    cases hq : P.info? el with
    | none => rw [hq] at ht; cases ht
    | some i =>
      rw [hq] at ht
      simp only [Option.map_some, Option.some.injEq, Prod.mk.injEq] at ht
      obtain ⟨rfl, rfl, rfl, hzz⟩ := ht
      have hmx : maxLen = 9223372036854775807 := by decide
      cases ay with
      | none =>
        exfalso
        obtain ⟨q, hq2⟩ := Qc hn
        obtain ⟨b, o, ha, _⟩ := hs _ _ (Yh hq2)
        cases ha
      | some a =>
        have hby : zs.length * i.bytes ≤ 1099511627776 * 128 := Nat.mul_le_mul hm hb
        have hr := run_append_grow (P := P) w t ty el i z hu hq hzz ⟨B, 0, none⟩ 0 0 [] (by simp) (fun j v hj => by simp at hj) a zs.length c (zs.flatMap g) (Y6 hg zs) (L3 hg h0 hs) (by omega) (by omega) (growslice_fits (by omega) (by rw [Nat.zero_add]; omega))
        rw [Nat.zero_add] at hr
        refine Y0 rfl hd (by simp [execOp, resolve, invoke, builtin, hx, hy, hr]; exact ⟨rfl, rfl⟩) (h w.heap.size _ _ ⟨rfl, ?_, ?_⟩)
        · have hge := grownCap_ge w zs.length 0 el
          have hcm : grownCap w zs.length 0 el ≤ maxLen := grownCap_le_maxLen w zs.length 0 el (by omega)
          refine Own.ofBlk (Y6 hg zs) (heap_alloc_new w.drew _) hge hcm ?_ ?_
          · simp only [Array.size_append, List.size_toArray, size_zeroCells, hz, List.length_nil, Y6 hg zs, Nat.zero_add, ← Nat.add_mul]
            congr 1
            omega
          · simp only [Array.toList_append, List.nil_append]
            rw [← Y6 hg zs]
            exact List.take_left
        · exact ⟨rfl, rfl, rfl, by simp, fun k hk _ => heap_alloc_old w.drew _ hk⟩
  · cases ht
end
section
variable {ms : List MTh} {X : MTh} {k : Int} {l : Lab}
end
end Go.Dw
end
section
namespace Go.Dw.J
open Go.Dw Go.RowKit
set_option linter.unusedVariables false
set_option linter.unusedSimpArgs false
set_option linter.unusedSectionVars false
section
variable {A A1 : World}
theorem Ext.cell (h : Ext A A1) {a : Addr} {v : Value} (hc : A.cell? a = some v) : A1.cell? a = some v := by
  obtain ⟨c, T, fr, h1, h2, h3⟩ := Kv hc
  exact Uh (by rw [h.get (Array.getElem?_eq_some_iff.1 h1).1]; exact h1) h2 h3
theorem Ext.range (h : Ext A A1) {b o : Nat} {vs : List Value} (hr : A.rangeAt b o vs) : A1.rangeAt b o vs := fun j v hj => h.cell (hr j v hj)
theorem Ext.blk (h : Ext A A1) {b : Nat} {T : TypeId} {cs : Array Value} (hb : Blk A b T cs) : Blk A1 b T cs := (h.get hb.lt).trans hb
theorem Ext.sl (h : Ext A A1) {a : Option Addr} {sz : Nat} {xs : List (List Value)} (hs : SlAt A a sz xs) : SlAt A1 a sz xs := fun k x hk => by
  obtain ⟨b, o, e, hr⟩ := hs k x hk
  exact ⟨b, o, e, h.range hr⟩
theorem Ext.grow {A' : World} {r : Option Nat} (h : Ext A A1) (hg : A1.grownBy A' r) : A.grownBy (Go.Dw.J.norm A A') r :=
  ⟨hg.os.trans h.choose_spec.2.1, rfl, hg.output.trans h.choose_spec.2.2, Nat.le_trans h.size hg.size, fun b hb hne => (hg.block b (Nat.lt_of_lt_of_le hb h.size) hne).trans (h.get hb)⟩
theorem Ext.grown0 (h : Ext A A1) : A.grownBy { A1 with tape := A.tape } none := ⟨h.choose_spec.2.1, rfl, h.choose_spec.2.2, h.size, fun b hb _ => h.get hb⟩
theorem Ext.own (h : Ext A A1) {B : Nat} {T : TypeId} {sz cap n : Nat} {vs : List Value} (ho : Own A B T sz cap n vs) : Own A1 B T sz cap n vs := by
  have := Own.grown0 ho (grown0 h)
  exact this
theorem Ext.ownN (h : Ext A A1) {lo : Nat} {a : Option Addr} {T : TypeId} {sz cap n : Nat} {vs : List Value} (ho : OwnN lo A a T sz cap n vs) : OwnN lo A1 a T sz cap n vs := by
  have := OwnN.grown0 ho (grown0 h)
  exact this
end
structure NewB (w w' : World) (B : Nat) (T : TypeId) (cs : Array Value) : Prop where
  ge : w.heap.size ≤ B
  blk : Blk w' B T cs
  grw : w.grownBy w' none
structure SetB (w w' : World) (b : Nat) (T : TypeId) (cs : Array Value) : Prop where
  blk : Blk w' b T cs
  grw : w.grownBy w' (some b)
structure NewO (w w' : World) (B : Nat) (T : TypeId) (sz cap n : Nat) (vs : List Value) : Prop where
  ge : w.heap.size ≤ B
  own : Own w' B T sz cap n vs
  grw : w.grownBy w' none
theorem NewB.of {w A1 w' : World} {B : Nat} {T : TypeId} {cs : Array Value} (hE : Ext w A1) (h : Go.Dw.NewB A1 w' B T cs) : NewB w (norm w w') B T cs := ⟨by rw [h.eq]; exact hE.size, h.blk, hE.grow h.grw⟩
theorem SetB.of {w A1 w' : World} {b : Nat} {T : TypeId} {cs : Array Value} (hE : Ext w A1) (h : Go.Dw.SetB A1 w' b T cs) : SetB w (norm w w') b T cs := ⟨h.blk, hE.grow h.grw⟩
theorem NewO.of {w A1 w' : World} {B : Nat} {T : TypeId} {sz cap n : Nat} {vs : List Value} (hE : Ext w A1) (h : Go.Dw.NewO A1 w' B T sz cap n vs) : NewO w (norm w w') B T sz cap n vs := ⟨by rw [h.eq]; exact hE.size, h.own, hE.grow h.grw⟩
theorem X1 {w a b : World} {r : Option Nat} {B : Nat} {T : TypeId} {cs : Array Value} (h : NewB a b B T cs) (hl : w.grownBy a r) : w.heap.size ≤ B := Nat.le_trans hl.size h.ge
theorem Xo {a b : World} {B C : Nat} {T : TypeId} {cs : Array Value} (h : NewB a b B T cs) (hk : C < a.heap.size) : C < B := Nat.lt_of_lt_of_le hk h.ge
def Plain (s : Sem Next) : Prop := ∀ P w x w', s.run P w = .ok x w' → (∃ v, x = .value v) ∨ x = .skip
theorem Um (v : Value) : Plain (pure (.value v)) := fun P w x w' h => by
  simp only [Sem.run_pure, Result.ok.injEq] at h
  exact Or.inl ⟨v, h.1.symm⟩
theorem Gz {α : Type} {s : Sem α} {k : α → Sem Next} (hk : ∀ x, Plain (k x)) : Plain (s >>= k) := fun P w x w' h => by
  rw [Sem.run_bind] at h
  cases hs : s.run P w with
  | ok y w1 => rw [hs] at h; exact hk y P w1 x w' h
  | halt e w1 => rw [hs] at h; cases h
theorem Ys (s : Sem Value) : Plain (do pure (.value (← s))) := Gz fun _ => Um _
theorem Wr (s : Sem Unit) : Plain (do s; pure .skip) := Gz fun _ P w x w' h => by
  simp only [Sem.run_pure, Result.ok.injEq] at h
  exact Or.inr h.1.symm
theorem qu {P : Program} {s : Sem Unit} (h : Quiet P s) : Quiet P (do s; pure .skip : Sem Next) := qb h fun _ => trivial
section
variable {P : Program} {f : Fr} {d : Option Nat} {ty : TypeId} {pos : String} {aft : Array Edge} {g : Option (Nat × Bool)}
theorem G0 {b : Builtin} {args : Array Operand} {tys : Array TypeId} (h : Quiet P (builtin b tys ty (args.map fun | .const _ => true | _ => false) (args.map (ev f)))) : Quiet P (execOp (ev f) ⟨d, .call ⟨.builtin b, args, tys⟩, ty, pos, aft, g⟩) := h
theorem Tx {args : Array Operand} {tys : Array TypeId} : Plain (execOp (ev f) ⟨d, .call ⟨.builtin .len, args, tys⟩, ty, pos, aft, g⟩) := Ys (Builtin.len_ tys ty (args.map (ev f)))
theorem Vp {args : Array Operand} {tys : Array TypeId} : Plain (execOp (ev f) ⟨d, .call ⟨.builtin .append, args, tys⟩, ty, pos, aft, g⟩) := Ys (Builtin.append_ tys ty (args.map (ev f)))
end
theorem L2 {P : Program} {t e sz bytes : Nat} {z : Option Value} (h : mkTy P t = some (e, sz, bytes, z)) : P.underlying t = some (.slice e) := by
  unfold mkTy at h
  split at h
  · rename_i el hu
    cases hq : P.info? el with
    | none => rw [hq] at h; cases h
    | some i =>
      rw [hq] at h
      simp only [Option.map_some, Option.some.injEq, Prod.mk.injEq] at h
      rw [hu, h.1]
  · cases h
section
variable [Comp] {P : Program} {n : Nat} {ops : Array Oper} {K : Fr → World → Prop} {l : List Oper} {f : Fr} {A : World} {o : Oper}
theorem execOp_congr {ρ : Operand → Value} {o o' : Oper} (h1 : o'.op = o.op) (h2 : o'.type = o.type) : execOp ρ o' = execOp ρ o := by
  unfold execOp
  rw [h1, h2]
theorem keep {A A1 : World} (hE : Ext A A1) (h : WpO P n ops K l f A) : WpO P n ops K l f (norm A A1) := h.ext hE.norm rfl
theorem Dn {K' : Fr → World → Prop} {A1 : World} {a : Act} (hg : o.guard = none) (hp : Plain (execOp (ev f) o)) (ha : FEq n a f) (h : Go.Dw.WpO P n ops K' [o] f A1) :
    ∃ x A1', (execOp a.eval o).run P A1 = .ok x A1' ∧ ((∃ v, x = .value v ∧ ∃ f', FEq n (a.put o.dst v) f' ∧ K' f' A1') ∨ (x = .skip ∧ ∃ f', FEq n (a.put o.dst undef) f' ∧ K' f' A1')) := by
  have h1 := h a ha (fun e a' w' => match e with | .normal => ∃ f', FEq n a' f' ∧ K' f' w' | _ => False) (fun a' w' f' hf hK => ⟨f', hf, hK⟩)
  unfold wpList at h1
  rw [if_pos (by simp [Region.wanted, hg])] at h1
  rcases h1 with h1 | ⟨_, a0, w0, h0⟩
  · unfold Oper.wp at h1
    rw [ha.eval] at h1 ⊢
    cases hr : (execOp (ev f) o).run P A1 with
    | ok x A1' =>
      rw [hr] at h1
      refine ⟨x, A1', rfl, ?_⟩
      rcases hp P A1 x A1' hr with ⟨v, rfl⟩ | rfl
      · exact Or.inl ⟨v, rfl, h1⟩
      · exact Or.inr ⟨rfl, h1⟩
    | halt e A1' =>
      rw [hr] at h1
      cases e <;> exact h1.elim
  · exact h0.elim
theorem jop (hg : o.guard = none) (hq : Quiet P (execOp (ev f) o)) (hp : Plain (execOp (ev f) o)) (h : ∀ A1, Ext A A1 → Go.Dw.WpO P n ops (fun f' A1' => WpO P n ops K l f' (norm A A1')) [o] f A1) : WpO P n ops K (o :: l) f A := fun a ha =>
  Or.inl ⟨by simp [Region.wanted, hg], Or.inl ⟨by rw [ha.eval]; exact hq, fun A1 hE => by
    obtain ⟨x, A1', hr, hx⟩ := Dn hg hp ha (h A1 hE)
    rcases hx with ⟨v, e, f', hf, hK⟩ | ⟨e, f', hf, hK⟩
    · exact ⟨x, v, A1', hr, Or.inl e, f', hf, hK⟩
    · exact ⟨x, undef, A1', hr, Or.inr ⟨e, rfl⟩, f', hf, hK⟩⟩⟩
end
section
variable [Comp] {P : Program} {n : Nat} {ops : Array Oper} {K : Fr → World → Prop} {l : List Oper} {f : Fr} {w w' : World} {ty : TypeId} {pos : String} {aft : Array Edge} {d : Nat}
theorem wpo_move {x : Operand} {v : Value} (hx : ev f x = v) (hd : Nat.blt d n = true) (h : WpO P n ops K l (up f d v) w) : WpO P n ops K (⟨some d, .move x, ty, pos, aft, none⟩ :: l) f w :=
  jop rfl (qp _) (Um _) fun A1 hE => Go.Dw.wpo_move hx hd (Go.Dw.wpo_nil (keep hE h))
theorem wpo_assign {x : Operand} {v : Value} (hx : ev f x = v) (hd : Nat.blt d n = true) (h : WpO P n ops K l (up f d v) w) : WpO P n ops K (⟨some d, .assign x, ty, pos, aft, none⟩ :: l) f w :=
  jop rfl (qp _) (Um _) fun A1 hE => Go.Dw.wpo_assign hx hd (Go.Dw.wpo_nil (keep hE h))
theorem wpo_pickt {c x y : Operand} {b : Bool} {v : Value} (hc : ev f c = .bool b) (hb : b = true) (hx : ev f x = v) (hd : Nat.blt d n = true) (h : WpO P n ops K l (up f d v) w) : WpO P n ops K (⟨some d, .pick c x y, ty, pos, aft, none⟩ :: l) f w :=
  jop rfl (qb (Qm _) fun _ => qp _) (Gz fun _ => Um _) fun A1 hE => Go.Dw.wpo_pickt hc hb hx hd (Go.Dw.wpo_nil (keep hE h))
theorem wpo_pickf {c x y : Operand} {b : Bool} {v : Value} (hc : ev f c = .bool b) (hb : b = false) (hy : ev f y = v) (hd : Nat.blt d n = true) (h : WpO P n ops K l (up f d v) w) : WpO P n ops K (⟨some d, .pick c x y, ty, pos, aft, none⟩ :: l) f w :=
  jop rfl (qb (Qm _) fun _ => qp _) (Gz fun _ => Um _) fun A1 hE => Go.Dw.wpo_pickf hc hb hy hd (Go.Dw.wpo_nil (keep hE h))
theorem wpo_box {T : TypeId} {x : Operand} {v : Value} {cs : Array Value} (hx : ev f x = v) (hcs : v.cells = cs) (hd : Nat.blt d n = true) (h : ∀ B w', NewB w w' B T cs → WpO P n ops K l (up f d (.pointer (some ⟨B, 0, none⟩))) w') : WpO P n ops K (⟨some d, .box T x, ty, pos, aft, none⟩ :: l) f w :=
  jop rfl (qv (I8 _ _)) (Ys _) fun A1 hE => Go.Dw.wpo_box hx hcs hd (fun B w' hN => Go.Dw.wpo_nil (h B (norm w w') (NewB.of hE hN)))
theorem wpo_alloc {T : TypeId} {z : Value} {cs : Array Value} (hz : zeroTy P T = some z) (hcs : z.cells = cs) (hd : Nat.blt d n = true) (h : ∀ B w', NewB w w' B T cs → WpO P n ops K l (up f d (.pointer (some ⟨B, 0, none⟩))) w') : WpO P n ops K (⟨some d, .alloc T, ty, pos, aft, none⟩ :: l) f w :=
  jop rfl (qv (Ds _)) (Ys _) fun A1 hE => Go.Dw.wpo_alloc hz hcs hd (fun B w' hN => Go.Dw.wpo_nil (h B (norm w w') (NewB.of hE hN)))
theorem wpo_load1 {t : TypeId} {x : Operand} {a : Addr} {v : Value} (ht : oneTy P t = true) (hx : ev f x = .pointer (some a)) (hc : w.cell? a = some v) (hd : Nat.blt d n = true) (h : WpO P n ops K l (up f d v) w) : WpO P n ops K (⟨some d, .load t x, ty, pos, aft, none⟩ :: l) f w :=
  jop rfl (qv (Pu _ _)) (Ys _) fun A1 hE => Go.Dw.wpo_load1 ht hx (hE.cell hc) hd (Go.Dw.wpo_nil (keep hE h))
theorem wpo_loadn {t k b o : Nat} {x : Operand} {vs : List Value} (ht : rowTy P t = some k) (hx : ev f x = .pointer (some ⟨b, o, none⟩)) (hl : vs.length = k) (hr : w.rangeAt b o vs) (hd : Nat.blt d n = true) (h : WpO P n ops K l (up f d (.agg vs.toArray)) w) : WpO P n ops K (⟨some d, .load t x, ty, pos, aft, none⟩ :: l) f w :=
  jop rfl (qv (Pu _ _)) (Ys _) fun A1 hE => Go.Dw.wpo_loadn ht hx hl (hE.range hr) hd (Go.Dw.wpo_nil (keep hE h))
theorem wpo_store1 {t b o : Nat} {x y : Operand} {T : TypeId} {cs cs' : Array Value} {v : Value} (ht : oneTy P t = true) (hx : ev f x = .pointer (some ⟨b, o, none⟩)) (hy : ev f y = v) (h1 : v.oneCell' = true) (hb : Blk w b T cs) (ho : o < cs.size) (hcs : cs.setIfInBounds o v = cs') (h : ∀ w', SetB w w' b T cs' → WpO P n ops K l f w') : WpO P n ops K (⟨none, .store t x y, ty, pos, aft, none⟩ :: l) f w :=
  jop rfl (qu (Ks _ _ _)) (Wr _) fun A1 hE => Go.Dw.wpo_store1 ht hx hy h1 (hE.blk hb) ho hcs (fun w' hS => Go.Dw.wpo_nil (h (norm w w') (SetB.of hE hS)))
theorem wpo_storen {t k b o : Nat} {x y : Operand} {T : TypeId} {cs cs' : Array Value} {vs : List Value} (ht : rowTy P t = some k) (hx : ev f x = .pointer (some ⟨b, o, none⟩)) (hy : ev f y = .agg vs.toArray) (hl : vs.length = k) (h1 : ∀ v ∈ vs, v.oneCell' = true) (hb : Blk w b T cs) (ho : o + k ≤ cs.size) (hcs : (cs.toList.take o ++ vs ++ cs.toList.drop (o + k)).toArray = cs') (h : ∀ w', SetB w w' b T cs' → WpO P n ops K l f w') : WpO P n ops K (⟨none, .store t x y, ty, pos, aft, none⟩ :: l) f w :=
  jop rfl (qu (Ks _ _ _)) (Wr _) fun A1 hE => Go.Dw.wpo_storen ht hx hy hl h1 (hE.blk hb) ho hcs (fun w' hS => Go.Dw.wpo_nil (h (norm w w') (SetB.of hE hS)))
theorem wpo_fieldAddr {s k j b o o' : Nat} {x : Operand} (hf : fieldOff P s k = some j) (hx : ev f x = .pointer (some ⟨b, o, none⟩)) (e : o + j = o') (hd : Nat.blt d n = true) (h : WpO P n ops K l (up f d (.pointer (some ⟨b, o', none⟩))) w) : WpO P n ops K (⟨some d, .fieldAddr s x k, ty, pos, aft, none⟩ :: l) f w :=
  jop rfl (qv (T7 hf _)) (Ys _) fun A1 hE => Go.Dw.wpo_fieldAddr hf hx e hd (Go.Dw.wpo_nil (keep hE h))
theorem wpo_indexAddr {t sz b o o' len cap : Nat} {x y : Operand} {k : IntKind} {i : Int} (ht : elemSz P t = some sz) (hx : ev f x = .slice (some ⟨b, o, none⟩) len cap) (hy : ev f y = .int k i) (h0 : 0 ≤ i) (h1 : i < len) (e : o + i.toNat * sz = o') (hd : Nat.blt d n = true) (h : WpO P n ops K l (up f d (.pointer (some ⟨b, o', none⟩))) w) : WpO P n ops K (⟨some d, .indexAddr t x y, ty, pos, aft, none⟩ :: l) f w :=
  jop rfl (qv (T8 _ _ _)) (Ys _) fun A1 hE => Go.Dw.wpo_indexAddr ht hx hy h0 h1 e hd (Go.Dw.wpo_nil (keep hE h))
theorem X2 {t sz len cap b q o' : Nat} {a : Option Addr} {x y : Operand} {k : IntKind} {i : Int} (ht : elemSz P t = some sz) (hx : ev f x = .slice a len cap) (hy : ev f y = .int k i) (ha : a = some ⟨b, q, none⟩) (e : q + i.toNat * sz = o') (h0 : 0 ≤ i) (h1 : i < len)
    (hd : Nat.blt d n = true) (h : WpO P n ops K l (up f d (.pointer (some ⟨b, o', none⟩))) w) : WpO P n ops K (⟨some d, .indexAddr t x y, ty, pos, aft, none⟩ :: l) f w := by
  subst ha
  exact wpo_indexAddr ht hx hy h0 h1 e hd h
theorem wpo_len {t : TypeId} {a : Option Addr} {m c : Nat} {x : Operand} (ht : (match P.underlying t with | some (.slice _) => true | _ => false) = true) (hx : ev f x = .slice a m c) (hd : Nat.blt d n = true) (h : WpO P n ops K l (up f d (.int .i64 (m : Int))) w) : WpO P n ops K (⟨some d, .call ⟨.builtin .len, #[x], #[t]⟩, ty, pos, aft, none⟩ :: l) f w :=
  jop rfl (G0 (by rw [show (#[x]).map (ev f) = #[Value.slice a m c] from by simp [hx]]; exact qv (I9 (fun r => ⟨by simp, by simp⟩)))) (Tx) fun A1 hE => Go.Dw.wpo_len ht hx hd (Go.Dw.wpo_nil (keep hE h))
theorem wpo_nilCheck {x : Operand} {a : Addr} (hx : ev f x = .pointer (some a)) (hd : Nat.blt d n = true) (h : WpO P n ops K l (up f d (.pointer (some a))) w) : WpO P n ops K (⟨some d, .nilCheck x, ty, pos, aft, none⟩ :: l) f w :=
  jop rfl (by simp only [execOp, hx]; exact qp _) (by simp only [execOp, hx]; exact Um _) fun A1 hE => Go.Dw.wpo_nilCheck hx hd (Go.Dw.wpo_nil (keep hE h))
theorem wpo_extract {x : Operand} {i : Nat} {vs : Array Value} {v : Value} (hx : ev f x = .tuple vs) (hv : vs[i]? = some v) (hd : Nat.blt d n = true) (h : WpO P n ops K l (up f d v) w) : WpO P n ops K (⟨some d, .extract x i, ty, pos, aft, none⟩ :: l) f w :=
  jop rfl (qv (T6 _ _)) (Ys _) fun A1 hE => Go.Dw.wpo_extract hx hv hd (Go.Dw.wpo_nil (keep hE h))
theorem wpo_not {t : TypeId} {x : Operand} {b b' : Bool} (hx : ev f x = .bool b) (hb : (!b) = b') (hd : Nat.blt d n = true) (h : WpO P n ops K l (up f d (.bool b')) w) : WpO P n ops K (⟨some d, .unOp .not t x, ty, pos, aft, none⟩ :: l) f w :=
  jop rfl (qv (D0 _ _)) (Ys _) fun A1 hE => Go.Dw.wpo_not hx hb hd (Go.Dw.wpo_nil (keep hE h))
theorem wpo_build {t : TypeId} {parts : Array (Nat × Operand)} {ps : List (Nat × Value)} {v : Value} (hp : parts.toList.map (fun p => (p.1, ev f p.2)) = ps) (hb : ∀ w, (Instr.build t ps.toArray).run P w = .ok v w) (hd : Nat.blt d n = true) (h : WpO P n ops K l (up f d v) w) : WpO P n ops K (⟨some d, .build t parts, ty, pos, aft, none⟩ :: l) f w :=
  jop rfl (qv (Du _ _)) (Ys _) fun A1 hE => Go.Dw.wpo_build hp (hb A1) hd (Go.Dw.wpo_nil (keep hE h))
theorem wpo_makeFunc {k : FuncId} {cap : Array Operand} {vs : List Value} (hc : cap.toList.map (ev f) = vs) (hd : Nat.blt d n = true) (h : WpO P n ops K l (up f d (.func (.func k) #[] vs.toArray)) w) : WpO P n ops K (⟨some d, .makeFunc (.func k) #[] cap, ty, pos, aft, none⟩ :: l) f w :=
  jop rfl (qv (qp _)) (Ys _) fun A1 hE => Go.Dw.wpo_makeFunc hc hd (Go.Dw.wpo_nil (keep hE h))
theorem wpo_conv {s t : TypeId} {x : Operand} {k k' : IntKind} {a c : Int} (hx : ev f x = .int k a) (hs : (P.underlying s).isSome = true) (ht : P.underlying t = some (.int k')) (hc : k'.wrap a = c) (hd : Nat.blt d n = true) (h : WpO P n ops K l (up f d (.int k' c)) w) : WpO P n ops K (⟨some d, .convert s t x, ty, pos, aft, none⟩ :: l) f w :=
  jop rfl (by simp only [execOp, hx]; exact qv (T4 hs ht)) (Ys _) fun A1 hE => Go.Dw.wpo_conv hx hs ht hc hd (Go.Dw.wpo_nil (keep hE h))
theorem wpo_eqs {bo : BinOp} {t yt : TypeId} {x y : Operand} {u v : Value} {q q' : Bool} (hx : ev f x = u) (hy : ev f y = v) (hu : flat1 u = true) (hv : flat1 v = true) (hg : ∀ w, (eqGuard bo t x y u v).run P w = .ok () w) (hr : ∀ w, (binOp bo t u v).run P w = .ok (.bool q') w) (hq : q' = q) (hd : Nat.blt d n = true) (h : WpO P n ops K l (up f d (.bool q)) w) : WpO P n ops K (⟨some d, .binOp bo t x y yt, ty, pos, aft, none⟩ :: l) f w :=
  jop rfl (Kd (Y7 hx hu) (Y7 hy hv)) (Ys _) fun A1 hE => Go.Dw.wpo_eqs hx hy (hg A1) (hr A1) hq hd (Go.Dw.wpo_nil (keep hE h))
theorem wpo_bin {bo : BinOp} {xt yt : TypeId} {x y : Operand} {u u' v : Value} (hx : ev f x = u) (hy : ev f y = u') (hu : flat1 u = true) (hv : flat1 u' = true) (hr : ∀ w, (binOp bo xt u u').run P w = .ok v w) (hg : ∀ x y, eqGuard bo xt x y u u' = pure ()) (hd : Nat.blt d n = true) (h : WpO P n ops K l (up f d v) w) : WpO P n ops K (⟨some d, .binOp bo xt x y yt, ty, pos, aft, none⟩ :: l) f w :=
  jop rfl (Kd (Y7 hx hu) (Y7 hy hv)) (Ys _) fun A1 hE => Go.Dw.wpo_bin hx hy (hr A1) hg hd (Go.Dw.wpo_nil (keep hE h))
theorem wpo_add {xt yt : TypeId} {x y : Operand} {a b c : Int} (hx : ev f x = .int .i64 a) (hy : ev f y = .int .i64 b) (hc : a + b = c) (h0 : -9223372036854775808 ≤ c) (h1 : c ≤ 9223372036854775807) (hd : Nat.blt d n = true) (h : WpO P n ops K l (up f d (.int .i64 c)) w) : WpO P n ops K (⟨some d, .binOp .add xt x y yt, ty, pos, aft, none⟩ :: l) f w :=
  jop rfl (Kd (Y7 hx rfl) (Y7 hy rfl)) (Ys _) fun A1 hE => Go.Dw.wpo_add hx hy hc h0 h1 hd (Go.Dw.wpo_nil (keep hE h))
theorem wpo_sub {xt yt : TypeId} {x y : Operand} {a b c : Int} (hx : ev f x = .int .i64 a) (hy : ev f y = .int .i64 b) (hc : a - b = c) (h0 : -9223372036854775808 ≤ c) (h1 : c ≤ 9223372036854775807) (hd : Nat.blt d n = true) (h : WpO P n ops K l (up f d (.int .i64 c)) w) : WpO P n ops K (⟨some d, .binOp .sub xt x y yt, ty, pos, aft, none⟩ :: l) f w :=
  jop rfl (Kd (Y7 hx rfl) (Y7 hy rfl)) (Ys _) fun A1 hE => Go.Dw.wpo_sub hx hy hc h0 h1 hd (Go.Dw.wpo_nil (keep hE h))
theorem wpo_quo {xt yt : TypeId} {x y : Operand} {a b c : Int} (hx : ev f x = .int .i64 a) (hy : ev f y = .int .i64 b) (h0 : 0 ≤ a) (h1 : 0 < b) (h2 : a ≤ 9223372036854775807) (hc : a / b = c) (hd : Nat.blt d n = true) (h : WpO P n ops K l (up f d (.int .i64 c)) w) : WpO P n ops K (⟨some d, .binOp .quo xt x y yt, ty, pos, aft, none⟩ :: l) f w :=
  jop rfl (Kd (Y7 hx rfl) (Y7 hy rfl)) (Ys _) fun A1 hE => Go.Dw.wpo_quo hx hy h0 h1 h2 hc hd (Go.Dw.wpo_nil (keep hE h))
theorem wpo_rem {xt yt : TypeId} {x y : Operand} {a b c : Int} (hx : ev f x = .int .i64 a) (hy : ev f y = .int .i64 b) (h0 : 0 ≤ a) (h1 : 0 < b) (_h2 : a ≤ 9223372036854775807) (hc : a % b = c) (hd : Nat.blt d n = true) (h : WpO P n ops K l (up f d (.int .i64 c)) w) : WpO P n ops K (⟨some d, .binOp .rem xt x y yt, ty, pos, aft, none⟩ :: l) f w :=
  jop rfl (Kd (Y7 hx rfl) (Y7 hy rfl)) (Ys _) fun A1 hE => Go.Dw.wpo_rem hx hy h0 h1 _h2 hc hd (Go.Dw.wpo_nil (keep hE h))
theorem wpo_mul {xt yt : TypeId} {x y : Operand} {a b c : Int} (hx : ev f x = .int .i64 a) (hy : ev f y = .int .i64 b) (hc : a * b = c) (h0 : -9223372036854775808 ≤ c) (h1 : c ≤ 9223372036854775807) (hd : Nat.blt d n = true) (h : WpO P n ops K l (up f d (.int .i64 c)) w) : WpO P n ops K (⟨some d, .binOp .mul xt x y yt, ty, pos, aft, none⟩ :: l) f w :=
  jop rfl (Kd (Y7 hx rfl) (Y7 hy rfl)) (Ys _) fun A1 hE => Go.Dw.wpo_mul hx hy hc h0 h1 hd (Go.Dw.wpo_nil (keep hE h))
theorem wpo_lss {xt yt : TypeId} {x y : Operand} {k : IntKind} {a b : Int} {q : Bool} (hx : ev f x = .int k a) (hy : ev f y = .int k b) (hq : decide (a < b) = q) (hd : Nat.blt d n = true) (h : WpO P n ops K l (up f d (.bool q)) w) : WpO P n ops K (⟨some d, .binOp .lss xt x y yt, ty, pos, aft, none⟩ :: l) f w :=
  jop rfl (Kd (Y7 hx rfl) (Y7 hy rfl)) (Ys _) fun A1 hE => Go.Dw.wpo_lss hx hy hq hd (Go.Dw.wpo_nil (keep hE h))
theorem wpo_leq {xt yt : TypeId} {x y : Operand} {k : IntKind} {a b : Int} {q : Bool} (hx : ev f x = .int k a) (hy : ev f y = .int k b) (hq : decide (a ≤ b) = q) (hd : Nat.blt d n = true) (h : WpO P n ops K l (up f d (.bool q)) w) : WpO P n ops K (⟨some d, .binOp .leq xt x y yt, ty, pos, aft, none⟩ :: l) f w :=
  jop rfl (Kd (Y7 hx rfl) (Y7 hy rfl)) (Ys _) fun A1 hE => Go.Dw.wpo_leq hx hy hq hd (Go.Dw.wpo_nil (keep hE h))
theorem wpo_gtr {xt yt : TypeId} {x y : Operand} {k : IntKind} {a b : Int} {q : Bool} (hx : ev f x = .int k a) (hy : ev f y = .int k b) (hq : decide (b < a) = q) (hd : Nat.blt d n = true) (h : WpO P n ops K l (up f d (.bool q)) w) : WpO P n ops K (⟨some d, .binOp .gtr xt x y yt, ty, pos, aft, none⟩ :: l) f w :=
  jop rfl (Kd (Y7 hx rfl) (Y7 hy rfl)) (Ys _) fun A1 hE => Go.Dw.wpo_gtr hx hy hq hd (Go.Dw.wpo_nil (keep hE h))
theorem wpo_geq {xt yt : TypeId} {x y : Operand} {k : IntKind} {a b : Int} {q : Bool} (hx : ev f x = .int k a) (hy : ev f y = .int k b) (hq : decide (b ≤ a) = q) (hd : Nat.blt d n = true) (h : WpO P n ops K l (up f d (.bool q)) w) : WpO P n ops K (⟨some d, .binOp .geq xt x y yt, ty, pos, aft, none⟩ :: l) f w :=
  jop rfl (Kd (Y7 hx rfl) (Y7 hy rfl)) (Ys _) fun A1 hE => Go.Dw.wpo_geq hx hy hq hd (Go.Dw.wpo_nil (keep hE h))
theorem wpo_eql {xt yt : TypeId} {x y : Operand} {k : IntKind} {a b : Int} {q : Bool} (hx : ev f x = .int k a) (hy : ev f y = .int k b) (hq : decide (a = b) = q) (hd : Nat.blt d n = true) (h : WpO P n ops K l (up f d (.bool q)) w) : WpO P n ops K (⟨some d, .binOp .eql xt x y yt, ty, pos, aft, none⟩ :: l) f w :=
  jop rfl (Kd (Y7 hx rfl) (Y7 hy rfl)) (Ys _) fun A1 hE => Go.Dw.wpo_eql hx hy hq hd (Go.Dw.wpo_nil (keep hE h))
theorem wpo_neq {xt yt : TypeId} {x y : Operand} {k : IntKind} {a b : Int} {q : Bool} (hx : ev f x = .int k a) (hy : ev f y = .int k b) (hq : (!decide (a = b)) = q) (hd : Nat.blt d n = true) (h : WpO P n ops K l (up f d (.bool q)) w) : WpO P n ops K (⟨some d, .binOp .neq xt x y yt, ty, pos, aft, none⟩ :: l) f w :=
  jop rfl (Kd (Y7 hx rfl) (Y7 hy rfl)) (Ys _) fun A1 hE => Go.Dw.wpo_neq hx hy hq hd (Go.Dw.wpo_nil (keep hE h))
theorem wpo_make {α : Type} {g : α → List Value} {z : α} {t e sz bytes c : Nat} {v : Value} {x y : Operand} (ht : mkTy P t = some (e, sz, bytes, some v)) (hv : v.cells = (g z).toArray) (hg : Wide g sz) (h0 : 0 < sz) (hx : ev f x = .int .i64 (c : Int)) (hy : ev f y = .int .i64 (c : Int)) (hb : bytes * c ≤ 281474976710656) (h63 : c ≤ 9223372036854775807) (hd : Nat.blt d n = true) (h : ∀ B w', NewB w w' B e ((List.replicate c z).flatMap g).toArray → WpO P n ops K l (up f d (.slice (some ⟨B, 0, none⟩) c c)) w') : WpO P n ops K (⟨some d, .makeSlice t x y, ty, pos, aft, none⟩ :: l) f w :=
  jop rfl (qv (Pv _ _ _)) (Ys _) fun A1 hE => Go.Dw.wpo_make ht hv hg h0 hx hy hb h63 hd (fun B w' hN => Go.Dw.wpo_nil (h B (norm w w') (NewB.of hE hN)))
theorem wpo_cut {t : TypeId} {x y : Operand} {a : Option Addr} {m c h : Nat} {k : IntKind} {e sz : Nat} (ht : P.underlying t = some (.slice e)) (hs : (P.info? e).map (·.size) = some sz) (hx : ev f x = .slice a m c) (hy : ev f y = .int k (h : Int)) (hc : h ≤ c) (hd : Nat.blt d n = true) (hk : WpO P n ops K l (up f d (.slice a h c)) w) : WpO P n ops K (⟨some d, .slice t x none (some y) none, ty, pos, aft, none⟩ :: l) f w :=
  jop rfl (qv (Lf _ _ _ _ _)) (Ys _) fun A1 hE => Go.Dw.wpo_cut ht hs hx hy hc hd (Go.Dw.wpo_nil (keep hE hk))
theorem wpo_buildSlice {t len : Nat} {parts : Array (Nat × Operand)} {ps : List (Nat × Value)} {e : TypeId} {cs : Array Value} (hp : parts.toList.map (fun p => (p.1, ev f p.2)) = ps) (hb : ∀ w, (Instr.buildSlice t len ps.toArray).run P w = .ok (.slice (some ⟨w.heap.size, 0, none⟩) len len) (w.alloc (.cells cs e))) (hd : Nat.blt d n = true) (h : ∀ B w', NewB w w' B e cs → WpO P n ops K l (up f d (.slice (some ⟨B, 0, none⟩) len len)) w') : WpO P n ops K (⟨some d, .buildSlice t len parts, ty, pos, aft, none⟩ :: l) f w :=
  jop rfl (qv (Na _ _ _)) (Ys _) fun A1 hE => Go.Dw.wpo_buildSlice hp hb hd (fun B w' hN => Go.Dw.wpo_nil (h B (norm w w') (NewB.of hE hN)))
theorem wpo_append {α : Type} {g : α → List Value} {t e sz bytes cap c : Nat} {z : Value} {x y : Operand} {B : Nat} {ys zs : List α} {a : Addr} (ht : mkTy P t = some (e, sz, bytes, some z)) (hz : z.cells.size = sz) (hg : Wide g sz) (h0 : 0 < sz) (h1c : ∀ q : α, ∀ u ∈ g q, u.oneCell' = true) (hx : ev f x = .slice (some ⟨B, 0, none⟩) ys.length cap) (hy : ev f y = .slice (some a) zs.length c) (ho : Own w B e sz cap ys.length (ys.flatMap g)) (hs : SlAt w (some a) sz (zs.map g)) (hm : ys.length + zs.length ≤ 1099511627776) (hb : bytes ≤ 128) (hd : Nat.blt d n = true) (h : ∀ B' cap' w', Own w' B' e sz cap' (ys ++ zs).length ((ys ++ zs).flatMap g) → w.grownBy w' (some B) → (B' = B ∨ w.heap.size ≤ B') → WpO P n ops K l (up f d (.slice (some ⟨B', 0, none⟩) (ys ++ zs).length cap')) w') : WpO P n ops K (⟨some d, .call ⟨.builtin .append, #[x, y], #[t, t]⟩, ty, pos, aft, none⟩ :: l) f w :=
  jop rfl (G0 (by rw [show (#[x, y]).map (ev f) = #[Value.slice (some ⟨B, 0, none⟩) ys.length cap, Value.slice (some a) zs.length c] from by simp [hx, hy]]; exact qv (Hm (L2 ht) _ _))) (Vp) fun A1 hE => Go.Dw.wpo_append ht hz hg h0 h1c hx hy (hE.own ho) (hE.sl hs) hm hb hd (fun B' cap' w' hO hG hB => Go.Dw.wpo_nil (h B' cap' (norm w w') hO (hE.grow hG) (hB.imp id fun e => by rw [e]; exact hE.size)))
theorem wpo_appendN {α : Type} {g : α → List Value} {lo t e sz bytes cap c : Nat} {z : Value} {x y : Operand} {ax ay : Option Addr} {ys zs : List α} (ht : mkTy P t = some (e, sz, bytes, some z)) (hz : z.cells.size = sz) (hg : Wide g sz) (h0 : 0 < sz) (h1c : ∀ q : α, ∀ u ∈ g q, u.oneCell' = true) (hx : ev f x = .slice ax ys.length cap) (hy : ev f y = .slice ay zs.length c) (ho : OwnN lo w ax e sz cap ys.length (ys.flatMap g)) (hs : SlAt w ay sz (zs.map g)) (hc : ay = none → c = 0) (hm : ys.length + zs.length ≤ 1099511627776) (hb : bytes ≤ 128) (hlo : lo ≤ w.heap.size) (hd : Nat.blt d n = true) (h : ∀ a' cap' w', OwnN lo w' a' e sz cap' (ys ++ zs).length ((ys ++ zs).flatMap g) → w.grownBy w' (ax.map (·.block)) → (a'.map (·.block) = ax.map (·.block) ∨ ∃ B, a'.map (·.block) = some B ∧ w.heap.size ≤ B) → WpO P n ops K l (up f d (.slice a' (ys ++ zs).length cap')) w') : WpO P n ops K (⟨some d, .call ⟨.builtin .append, #[x, y], #[t, t]⟩, ty, pos, aft, none⟩ :: l) f w :=
  jop rfl (G0 (by rw [show (#[x, y]).map (ev f) = #[Value.slice ax ys.length cap, Value.slice ay zs.length c] from by simp [hx, hy]]; exact qv (Hm (L2 ht) _ _))) (Vp) fun A1 hE => Go.Dw.wpo_appendN ht hz hg h0 h1c hx hy (hE.ownN ho) (hE.sl hs) hc hm hb (Nat.le_trans hlo hE.size) hd (fun a' cap' w' hO hG hB => Go.Dw.wpo_nil (h a' cap' (norm w w') hO (hE.grow hG) (hB.imp id fun e => ⟨_, e, hE.size⟩)))
theorem wpo_append0 {α : Type} {g : α → List Value} {t e sz bytes c B : Nat} {z : Value} {x y : Operand} {ay : Option Addr} {zs : List α} (ht : mkTy P t = some (e, sz, bytes, some z)) (hz : z.cells.size = sz) (hg : Wide g sz) (h0 : 0 < sz) (hx : ev f x = .slice (some ⟨B, 0, none⟩) 0 0) (hy : ev f y = .slice ay zs.length c) (hs : SlAt w ay sz (zs.map g)) (hn : 0 < zs.length) (hm : zs.length ≤ 1099511627776) (hb : bytes ≤ 128) (hd : Nat.blt d n = true) (h : ∀ Y cap' w', NewO w w' Y e sz cap' zs.length (zs.flatMap g) → WpO P n ops K l (up f d (.slice (some ⟨Y, 0, none⟩) zs.length cap')) w') : WpO P n ops K (⟨some d, .call ⟨.builtin .append, #[x, y], #[t, t]⟩, ty, pos, aft, none⟩ :: l) f w :=
  jop rfl (G0 (by rw [show (#[x, y]).map (ev f) = #[Value.slice (some ⟨B, 0, none⟩) 0 0, Value.slice ay zs.length c] from by simp [hx, hy]]; exact qv (Hm (L2 ht) _ _))) (Vp) fun A1 hE => Go.Dw.wpo_append0 ht hz hg h0 hx hy (hE.sl hs) hn hm hb hd (fun B' cap' w' hO => Go.Dw.wpo_nil (h B' cap' (norm w w') (NewO.of hE hO)))
theorem wpo_store1O {α : Type} {g : α → List Value} {t b o sz cap k j : Nat} {T : TypeId} {x y : Operand} {v : Value} {ys : List α} {z z' : α} (ht : oneTy P t = true) (hx : ev f x = .pointer (some ⟨b, o, none⟩)) (hy : ev f y = v) (h1 : v.oneCell' = true) (hg : Wide g sz) (ho : Own w b T sz cap ys.length (ys.flatMap g)) (hk : ys[k]? = some z) (hj : j < sz) (e : o = k * sz + j) (hv : (g z).set j v = g z') (h : ∀ w', Own w' b T sz cap (ys.set k z').length ((ys.set k z').flatMap g) → w.grownBy w' (some b) → WpO P n ops K l f w') : WpO P n ops K (⟨none, .store t x y, ty, pos, aft, none⟩ :: l) f w :=
  jop rfl (qu (Ks _ _ _)) (Wr _) fun A1 hE => Go.Dw.wpo_store1O ht hx hy h1 hg (hE.own ho) hk hj e hv (fun w' hO hG => Go.Dw.wpo_nil (h (norm w w') hO (hE.grow hG)))
theorem wpo_storenO {α : Type} {g : α → List Value} {t b o sz cap k : Nat} {T : TypeId} {x y : Operand} {ys : List α} {z' : α} (ht : rowTy P t = some sz) (hx : ev f x = .pointer (some ⟨b, o, none⟩)) (hy : ev f y = .agg (g z').toArray) (h1 : ∀ v ∈ g z', v.oneCell' = true) (hg : Wide g sz) (ho : Own w b T sz cap ys.length (ys.flatMap g)) (hk : k < ys.length) (e : o = k * sz) (h : ∀ w', Own w' b T sz cap (ys.set k z').length ((ys.set k z').flatMap g) → w.grownBy w' (some b) → WpO P n ops K l f w') : WpO P n ops K (⟨none, .store t x y, ty, pos, aft, none⟩ :: l) f w :=
  jop rfl (qu (Ks _ _ _)) (Wr _) fun A1 hE => Go.Dw.wpo_storenO ht hx hy h1 hg (hE.own ho) hk e (fun w' hO hG => Go.Dw.wpo_nil (h (norm w w') hO (hE.grow hG)))
theorem wpo_storeD {t b o cap k : Nat} {T : TypeId} {x y : Operand} {ys : List Rt} {z' : Rt} (ht : rowTy P t = some 5) (hx : ev f x = .pointer (some ⟨b, o, none⟩)) (hy : ev f y = .agg z'.cells.toArray) (ho : Own w b T 5 cap ys.length (ys.flatMap Rt.cells)) (hk : k < ys.length) (e : o = k * 5) (h : ∀ w', PutR T b k z' w w' → w.grownBy w' (some b) → WpO P n ops K l f w') : WpO P n ops K (⟨none, .store t x y, ty, pos, aft, none⟩ :: l) f w :=
  jop rfl (qu (Ks _ _ _)) (Wr _) fun A1 hE => Go.Dw.wpo_storeD ht hx hy (hE.own ho) hk e (fun w' hO hG => Go.Dw.wpo_nil (h (norm w w') (fun cap' n' ys' ho' => hO cap' n' ys' (hE.own ho')) (hE.grow hG)))
theorem wpo_s2a {t e m sz len cap b q : Nat} {a : Option Addr} {x : Operand} (ht : arrTy P t = some (m, e, sz)) (hx : ev f x = .slice a len cap) (ha : a = some ⟨b, q, none⟩) (hm : m ≤ len) (hd : Nat.blt d n = true) (h : WpO P n ops K l (up f d (.pointer (some ⟨b, q, none⟩))) w) : WpO P n ops K (⟨some d, .sliceToArrayPointer t x, ty, pos, aft, none⟩ :: l) f w :=
  jop rfl (qv (T3 _ _)) (Ys _) fun A1 hE => Go.Dw.wpo_s2a ht hx ha hm hd (Go.Dw.wpo_nil (keep hE h))
theorem wpo_sliceArr {t e m sz b o : Nat} {x : Operand} (ht : arrTy P t = some (m, e, sz)) (hx : ev f x = .pointer (some ⟨b, o, none⟩)) (hm : 0 < m) (hd : Nat.blt d n = true) (h : WpO P n ops K l (up f d (.slice (some ⟨b, o, none⟩) m m)) w) : WpO P n ops K (⟨some d, .slice t x none none none, ty, pos, aft, none⟩ :: l) f w :=
  jop rfl (qv (Lf _ _ _ _ _)) (Ys _) fun A1 hE => Go.Dw.wpo_sliceArr ht hx hm hd (Go.Dw.wpo_nil (keep hE h))
theorem wpo_indexArr {α : Type} {g : α → List Value} {ys : List α} {z : α} {t e m sz : Nat} {k : IntKind} {i : Int} {x y : Operand} (ht : arrTy P t = some (m, e, sz)) (hr : rowTy P e = some sz) (hg : Wide g sz) (hx : ev f x = .agg (ys.flatMap g).toArray) (hy : ev f y = .int k i) (h0 : 0 ≤ i) (h1 : i < m) (hk : ys[i.toNat]? = some z) (hd : Nat.blt d n = true) (h : WpO P n ops K l (up f d (.agg (g z).toArray)) w) : WpO P n ops K (⟨some d, .index t x y, ty, pos, aft, none⟩ :: l) f w :=
  jop rfl (qv (Dv _ _ _)) (Ys _) fun A1 hE => Go.Dw.wpo_indexArr ht hr hg hx hy h0 h1 hk hd (Go.Dw.wpo_nil (keep hE h))
theorem Xc {d : Option Nat} {op : Op} {ty : TypeId} {pos : String} {aft : Array Edge} {j dj : Nat} {b b' : Bool} {oj : Oper} (hj : ops[j]? = some oj) (hdj : oj.dst = some dj) (hb : f dj = .bool b') (hbb : b' = b)
    (h : WpO P n ops K (⟨d, op, ty, pos, aft, none⟩ :: l) f w) : WpO P n ops K (⟨d, op, ty, pos, aft, some (j, b)⟩ :: l) f w :=
  fun a ha => by
    rcases h a ha with ⟨_, h2 | ⟨R, h2, h3⟩⟩ | ⟨h1, _⟩
    · exact Or.inl ⟨by simp [Region.wanted, Va ha hj hdj hb, hbb], Or.inl h2⟩
    · exact Or.inl ⟨by simp [Region.wanted, Va ha hj hdj hb, hbb], Or.inr ⟨R, h2, h3⟩⟩
    · simp [Region.wanted] at h1
theorem Ew {d : Nat} {op : Op} {ty : TypeId} {pos : String} {aft : Array Edge} {j : Nat} {b : Bool} (hw : ∀ a : Act, FEq n a f → Region.wanted ⟨some d, op, ty, pos, aft, some (j, b)⟩ (yielded ops a.tmps) = false)
    (hd : Nat.blt d n = true) (h : WpO P n ops K l (up f d undef) w) : WpO P n ops K (⟨some d, op, ty, pos, aft, some (j, b)⟩ :: l) f w :=
  fun a ha => Or.inr ⟨hw a ha, _, ha.put hd undef, h⟩
theorem Xe {d : Nat} {op : Op} {ty : TypeId} {pos : String} {aft : Array Edge} {j dj : Nat} {b b' : Bool} {oj : Oper} (hj : ops[j]? = some oj) (hdj : oj.dst = some dj) (hb : f dj = .bool b') (hbb : b' = !b)
    (hd : Nat.blt d n = true) (h : WpO P n ops K l (up f d undef) w) : WpO P n ops K (⟨some d, op, ty, pos, aft, some (j, b)⟩ :: l) f w :=
  Ew (fun a ha => by simp [Region.wanted, Va ha hj hdj hb, hbb]) hd h
theorem X4 {d : Nat} {op : Op} {ty : TypeId} {pos : String} {aft : Array Edge} {j dj : Nat} {b : Bool} {oj : Oper} (hj : ops[j]? = some oj) (hdj : oj.dst = some dj) (hb : f dj = undef)
    (hd : Nat.blt d n = true) (h : WpO P n ops K l (up f d undef) w) : WpO P n ops K (⟨some d, op, ty, pos, aft, some (j, b)⟩ :: l) f w :=
  Ew (fun a ha => by simp [Region.wanted, Uz ha hj hdj hb]) hd h
end
end Go.Dw.J
end
section
namespace Go.Dw.J
open Go.Dw Go.RowKit
open Go.Conc (G)
set_option linter.unusedVariables false
set_option linter.unusedSimpArgs false
set_option linter.unusedSectionVars false
theorem Cc {P : Program} {k : FuncId} (h : goFn P k = true) (args : Array Value) : Quiet P (callFunc k args) := by
  unfold goFn at h
  split at h
  · rename_i fn hf
    simp only [Bool.and_eq_true, Bool.not_eq_true'] at h
    obtain ⟨hb, hn⟩ := h
    have hb' : fn.body.isNone = false := by cases hh : fn.body <;> simp_all
    unfold callFunc
    refine qby Yu (R := (· = P)) rfl fun p hp => ?_
    subst hp
    simp only [hf, hn, hb', Bool.false_eq_true, if_false]
    exact qp _
  · cases h
section
variable [Comp] {P : Program} {n : Nat} {ops : Array Oper} {K : Fr → World → Prop} {l : List Oper} {f : Fr} {w : World} {o : Oper} {ty : TypeId} {pos : String} {aft : Array Edge} {d : Nat}
theorem Gg {k : FuncId} {args : Array Value} {R : Value → World → Prop} (hg : o.guard = none) (hd : okd n o.dst = true) (hq : Quiet P (execOp (ev f) o)) (hr : ∀ w, (execOp (ev f) o).run P w = .ok (.enter k args) w)
    (hc : CallsR P k args w R) (h : ∀ v w', R v w' → WpO P n ops K l (upo f o.dst v) w') : WpO P n ops K (o :: l) f w := fun a ha =>
  Or.inl ⟨by simp [Region.wanted, hg], Or.inr ⟨R, Uv (by rw [ha.eval]; exact hq) (fun A1 _ => ⟨_, by rw [ha.eval]; exact hr A1, Or.inl ⟨k, args, rfl, rfl⟩⟩) hc, fun v A' hR => ⟨_, ha.puto hd v, h v A' hR⟩⟩⟩
theorem Xh {k : FuncId} {args : Array Operand} {tys : Array TypeId} {vs : List Value} {R : Value → World → Prop} (hk : goFn P k = true) (ha : args.toList.map (ev f) = vs) (hd : Nat.blt d n = true) (hc : CallsR P k vs.toArray w R)
    (h : ∀ v w', R v w' → WpO P n ops K l (up f d v) w') : WpO P n ops K (⟨some d, .call ⟨.value (.func k), args, tys⟩, ty, pos, aft, none⟩ :: l) f w :=
  Gg (R := R) (k := k) (args := vs.toArray) rfl hd (Cc hk _) (fun w => by
    have : args.map (ev f) = vs.toArray := by rw [← ha]; apply Array.ext'; simp
    simp [execOp, resolve, ev, Deferred.ofValue, invoke, this, U3 hk]) hc h
end
def resV (P : Program) (fn : Func) (f : Fr) (w : World) (v : Value) : Prop := ∀ A1, Ext w A1 → Go.Dw.resV P fn f A1 v
def endQ (P : Program) (fn : Func) (R : Value → World → Prop) : Exit → Fr → World → Prop
  | .normal, f, w | .ret, f, w => ∃ v, resV P fn f w v ∧ R v w
  | _, _, _ => False
theorem res0 {P : Program} {fn : Func} {f : Fr} {w : World} (h : fn.results = #[]) : resV P fn f w (.tuple #[]) := fun _ _ => Go.Dw.res0 h
theorem res1 {P : Program} {fn : Func} {f : Fr} {w : World} {t : Nat} {v : Value} (h : fn.results = #[.tmp t]) (hv : f t = v) : resV P fn f w v := fun _ _ => Go.Dw.res1 h hv
theorem res2 {P : Program} {fn : Func} {f : Fr} {w : World} {t u : Nat} {v x : Value} (h : fn.results = #[.tmp t, .tmp u]) (hv : f t = v) (hx : f u = x) : resV P fn f w (.tuple #[v, x]) := fun _ _ => Go.Dw.res2 h hv hx
def resCell (P : Program) (f : Fr) (w : World) (t : Nat) (T : TypeId) (v : Value) : Prop := ∀ A1, Ext w A1 → Go.Dw.resCell P f A1 t T v
section
variable {P : Program} {fn : Func} {f : Fr} {w : World}
theorem resCell_mk {t T k b o : Nat} {vs : List Value} (ht : rowTy P T = some k) (hf : f t = .pointer (some ⟨b, o, none⟩)) (hl : vs.length = k) (hr : w.rangeAt b o vs) : resCell P f w t T (.agg vs.toArray) := fun A1 hE => Go.Dw.resCell_mk ht hf hl (hE.range hr)
theorem resCell_mk1 {t T b o : Nat} {v : Value} (ht : oneTy P T = true) (hf : f t = .pointer (some ⟨b, o, none⟩)) (hc : w.cell? ⟨b, o, none⟩ = some v) : resCell P f w t T v := fun A1 hE => Go.Dw.resCell_mk1 ht hf (hE.cell hc)
theorem resC {t T : Nat} {v : Value} (h : fn.results = #[.cell t T]) (hc : resCell P f w t T v) : resV P fn f w v := fun A1 hE => Go.Dw.resC h (hc A1 hE)
theorem resTC {s t T : Nat} {u v : Value} (h : fn.results = #[.tmp s, .cell t T]) (hs : f s = u) (hc : resCell P f w t T v) : resV P fn f w (.tuple #[u, v]) := fun A1 hE => Go.Dw.resTC h hs (hc A1 hE)
theorem resCT {s t T : Nat} {u v : Value} (h : fn.results = #[.cell t T, .tmp s]) (hc : resCell P f w t T v) (hs : f s = u) : resV P fn f w (.tuple #[v, u]) := fun A1 hE => Go.Dw.resCT h (hc A1 hE) hs
theorem Ld (fn : Func) (tmps : Array Value) : Quiet P (results fn tmps) := by
  unfold results
  refine qb (Cf (fun r => ?_) _) fun _ => qp _
  split
  · exact qp _
  · exact qb (Qs _) fun _ => Y4 _ _
end
section
variable [Comp] {P : Program} {J : Goroutine → World → Prop} {A : World}
theorem Closed.leave (hJ : Closed P J) {b c : Frame} {cs : List Frame} {a : Act} {fn : Func} {v : Value} (hn : b.kind = .normal) (hbd : b.defers = []) (hd : a.defers = []) (hf : P.funcs[b.fn]? = some fn) (hr : ∀ A1, Ext A A1 → (results fn a.tmps).run P A1 = .ok v A1)
    (h : J (G (c.finish v) cs) A) (todo : List Item) : J (G { ato b a todo with mode := .returning } (c :: cs)) A := by
  refine hJ.sem (s := results fn a.tmps) (next := fun v => G (c.finish v) cs) rfl (Ld fn a.tmps) (fun w x w' es hh => ⟨seen P b.fn es, ?_, fun e he => Go.Conc.mem_seen he⟩) fun A1 hE => ⟨v, A1, hr A1 hE, hJ.ext _ _ _ hE.norm rfl h⟩
  have e1 := Sem.runT_fst P (results fn a.tmps) w #[]
  rw [hh] at e1
  have e2 : (results fn a.tmps).events P w #[] = es := by unfold Sem.events; rw [hh]
  simp [G, stepG, unwind, doReturn, ato, hn, hd, hbd, hf, ← e1, e2, GStep.after]
theorem Xp {k : FuncId} {fn : Func} {c : Code} {args : Array Value} {R : Value → World → Prop} {n : Nat}
    (hf : P.funcs[k]? = some fn) (hb : fn.body = some c) (hn : fn.ntmps = n) (hs : Nat.ble args.size n = true)
    (h : Wpf P n (endQ P fn R) c (f0 args) A) : CallsR P k args A R := fun J hJ cf cs hk => by
  have hs' : args.size ≤ n := by simpa [Nat.ble_eq] using hs
  rw [Go.Conc.enter_at args hf hb, ← G7 (b := Go.Conc.base k) rfl rfl]
  have leave : ∀ (a' : Act) (f' : Fr) (A' : World) (todo : List Item), FEq n a' f' → (∃ v, resV P fn f' A' v ∧ R v A') → J (G { ato (Go.Conc.base k) a' todo with mode := .returning } (cf :: cs)) A' := fun a' f' A' todo hf' ⟨v, hv, hR⟩ =>
    hJ.leave (b := Go.Conc.base k) rfl rfl hf'.defers hf (fun A1 hE => hv A1 hE _ hf'.at_) (hk v A' hR) todo
  refine h J hJ (Go.Conc.base k) (by simp [Go.Conc.base]) [] (cf :: cs) _ ⟨rfl, by simp [hn]; omega, fun i => ?_⟩ fun e a' f' A' hf' hQ => ?_
  · simp only [f0, Uk, Array.getD_eq_getD_getElem?, Array.getElem?_toList]
    by_cases hi : i < args.size
    · rw [Array.getElem?_append_left hi]
    · rw [Array.getElem?_append_right (by omega), Array.getElem?_eq_none (by omega : args.size ≤ i)]
      by_cases h2 : i - args.size < fn.ntmps - args.size
      · simp [h2]
      · rw [Array.getElem?_eq_none (by simp; omega)]
  · cases e with
    | normal => exact hJ.move rfl (fun w => Gf rfl) (leave a' f' A' _ hf' hQ)
    | ret =>
      intro k2
      refine hJ.move rfl (g' := G { ato (Go.Conc.base k) a' (.code .ret :: k2) with mode := .returning } (cf :: cs)) (fun w => Vj rfl) (leave a' f' A' _ hf' hQ)
    | exit i => exact hQ.elim
    | goto l => exact hQ.elim
    | panic c => exact hQ.elim
    | outgrown => exact hQ.elim
end
section
variable [Comp]
def OpG (P : Program) (ops : Array Oper) (o : Oper) (K : Act → World → Prop) (a : Act) (A : World) : Prop :=
  (Region.wanted o (yielded ops a.tmps) = true ∧
    ((Quiet P (execOp a.eval o) ∧ ∀ A1, Ext A A1 → ∃ x v A1', (execOp a.eval o).run P A1 = .ok x A1' ∧ (x = .value v ∨ (x = .skip ∧ v = undef)) ∧ K (a.put o.dst v) (norm A A1')) ∨
     (∃ R, Special P ops o (execOp a.eval o) A R ∧ ∀ v A', R v A' → K (a.put o.dst v) A'))) ∨
  (Region.wanted o (yielded ops a.tmps) = false ∧ K (a.put o.dst undef) A)
def LstG (P : Program) (ops : Array Oper) (K : Act → World → Prop) : List Oper → Act → World → Prop
  | [], a, A => K a A
  | o :: l, a, A => OpG P ops o (LstG P ops K l) a A
def AnyJ (P : Program) (md : Region.Mode) (ops : Array Oper) (K : Act → World → Prop) : Nat → Array Bool → Act → World → Prop
  | 0, listed, a, A => Region.ready md ops listed = [] ∧ K a A
  | fuel + 1, listed, a, A => (Region.ready md ops listed = [] → K a A) ∧ ∀ i ∈ Region.ready md ops listed, ∃ o, ops[i]? = some o ∧ OpG P ops o (AnyJ P md ops K fuel (listed.setIfInBounds i true)) a A
variable {P : Program}
theorem R4 {n : Nat} {ops : Array Oper} {o : Oper} {next : Fr → World → Prop} {f : Fr} {A : World} {a : Act} (h : OpJ P n ops o next f A) (ha : FEq n a f) : OpG P ops o (fun a' A' => ∃ f', FEq n a' f' ∧ next f' A') a A := h a ha
theorem OpG.mono {ops : Array Oper} {o : Oper} {K K' : Act → World → Prop} {a : Act} {A : World} (h : OpG P ops o K a A) (hk : ∀ a A, K a A → K' a A) : OpG P ops o K' a A := by
  rcases h with ⟨h1, ⟨h2, h3⟩ | ⟨R, h4, h5⟩⟩ | ⟨h1, h3⟩
  · refine Or.inl ⟨h1, Or.inl ⟨h2, fun A1 hE => ?_⟩⟩
    obtain ⟨x, v, A1', h4, h5, h6⟩ := h3 A1 hE
    exact ⟨x, v, A1', h4, h5, hk _ _ h6⟩
  · exact Or.inl ⟨h1, Or.inr ⟨R, h4, fun v A' hR => hk _ _ (h5 v A' hR)⟩⟩
  · exact Or.inr ⟨h1, hk _ _ h3⟩
theorem OpG.ext {ops : Array Oper} {o : Oper} {K : Act → World → Prop} {a : Act} {A A1 : World} (h : OpG P ops o K a A) (he : Ext A A1) (ht : A1.tape = A.tape) (hn : ∀ a B B1, K a B → Ext B B1 → B1.tape = B.tape → K a B1) : OpG P ops o K a A1 := by
  rcases h with ⟨h1, ⟨h2, h3⟩ | ⟨R, h4, h5⟩⟩ | ⟨h1, h3⟩
  · refine Or.inl ⟨h1, Or.inl ⟨h2, fun A2 hE => ?_⟩⟩
    obtain ⟨x, v, A1', h4, h5, h6⟩ := h3 A2 (he.trans hE)
    exact ⟨x, v, A1', h4, h5, hn _ _ _ h6 ⟨0, by simp [Go.Dw.J.norm], rfl, rfl⟩ ht⟩
  · exact Or.inl ⟨h1, Or.inr ⟨R, h4.ext he ht, h5⟩⟩
  · exact Or.inr ⟨h1, hn _ _ _ h3 he ht⟩
theorem AnyJ.ext {md : Region.Mode} {ops : Array Oper} {K : Act → World → Prop} (hK : ∀ a A A1, K a A → Ext A A1 → A1.tape = A.tape → K a A1) : ∀ {fuel : Nat} {listed : Array Bool} {a : Act} {A A1 : World}, AnyJ P md ops K fuel listed a A → Ext A A1 → A1.tape = A.tape → AnyJ P md ops K fuel listed a A1
  | 0, _, _, _, _, h, he, ht => ⟨h.1, hK _ _ _ h.2 he ht⟩
  | fuel + 1, _, _, _, _, h, he, ht => ⟨fun e => hK _ _ _ (h.1 e) he ht, fun i hi => by
    obtain ⟨o, ho, hop⟩ := h.2 i hi
    exact ⟨o, ho, hop.ext he ht fun a B B1 hB hE hT => AnyJ.ext hK hB hE hT⟩⟩
theorem OpG.run {ops : Array Oper} {o : Oper} {K : Act → World → Prop} {a : Act} {A : World} (h : OpG P ops o K a A) {J : Goroutine → World → Prop} (hJ : Closed P J) {b : Frame} (hb : b.kind ≠ .early) {i : Nat} {rest : List Nat} {k : List Item} {cs : List Frame} (ho : ops[i]? = some o)
    (hk : ∀ a' A', K a' A' → J (G (ato b a' (.inRegion ops rest :: k)) cs) A') : J (G (ato b a (.inRegion ops (i :: rest) :: k)) cs) A := by
  rcases h with ⟨h1, ⟨h2, h3⟩ | ⟨R, h4, h5⟩⟩ | ⟨h1, h3⟩
  · refine hJ.value hb ho h1 h2 fun A1 hE => ?_
    obtain ⟨x, v, A1', h4, h5, h6⟩ := h3 A1 hE
    exact ⟨x, v, A1', h4, h5, hk _ _ h6⟩
  · exact h4 J hJ b hb i rest k cs a o ho rfl h1 rfl fun v A' hR => hk _ _ (h5 v A' hR)
  · exact hJ.move rfl (fun w => Uc ho h1) (hk _ _ h3)
theorem Wl {n : Nat} {ops : Array Oper} {Kf : Fr → World → Prop} {K : Act → World → Prop} (hext : ∀ a A A1, K a A → Ext A A1 → A1.tape = A.tape → K a A1) (hK : ∀ a' f' A', FEq n a' f' → Kf f' A' → K a' A') :
    ∀ (l : List Oper) (f : Fr) (A : World) (a : Act), FEq n a f → WpO P n ops Kf l f A → LstG P ops K l a A
  | [], f, A, a, ha, ⟨A0, h1, h2, h3⟩ => hext _ _ _ (hK a f A0 ha h3) h1 h2
  | o :: l, f, A, a, ha, h => (R4 (o := o) h ha).mono fun a' A' ⟨f', hf, hx⟩ => Wl hext hK l f' A' a' hf hx
theorem M0 {md : Region.Mode} {ops : Array Oper} {K : Act → World → Prop} {J : Goroutine → World → Prop} (hJ : Closed P J) {b : Frame} (hb : b.kind ≠ .early) {k : List Item} {cs : List Frame} (hk : ∀ a A, K a A → J (G (ato b a k) cs) A) :
    ∀ (fuel t : Nat) (listed : Array Bool) (a : Act) (A : World), AnyJ P md ops K fuel listed a A → J (G (ato b a (.inRegion ops (Region.linearise.go md ops fuel t listed []) :: k)) cs) A := by
  intro fuel
  induction fuel with
  | zero => intro t listed a A h; simpa [Region.linearise.go] using hJ.move rfl (fun w => stepG_region_end) (hk _ _ h.2)
  | succ fuel ih =>
    intro t listed a A h
    obtain ⟨h₀, h₁⟩ := h
    simp only [Region.linearise.go]
    change J (G (ato b a (.inRegion ops (match (Region.ready md ops listed)[t % (Region.ready md ops listed).length]? with
      | some i => Region.linearise.go md ops fuel (t / (Region.ready md ops listed).length) (listed.setIfInBounds i true) [i]
      | none => [].reverse) :: k)) cs) A
    cases hi : (Region.ready md ops listed)[t % (Region.ready md ops listed).length]? with
    | none =>
      have hnil : Region.ready md ops listed = [] := by
        cases hr : Region.ready md ops listed with
        | nil => rfl
        | cons x xs =>
          rw [hr] at hi
          have hlt : t % (x :: xs).length < (x :: xs).length := Nat.mod_lt _ (by simp)
          simp at hi
          simp at hlt
          omega
      simpa using hJ.move rfl (fun w => stepG_region_end) (hk _ _ (h₀ hnil))
    | some i =>
      simp only []
      rw [linearise_go_acc, List.reverse_singleton, List.singleton_append]
      obtain ⟨o, ho, hop⟩ := h₁ i (List.mem_of_getElem? hi)
      exact hop.run hJ hb ho fun a' A' hx => ih _ _ a' A' hx
variable {n : Nat} {ops : List Oper} {F f : Fr} {Inv : World → Prop}
def YlL (P : Program) (n : Nat) (ops : Array Oper) (Inv : World → Prop) (F : Fr) : List Oper → List (Nat × Value) → Prop
  | [], [] => True
  | o :: l, (d, v) :: r => o.dst = some d ∧ (∀ w, Inv w → WpO P n ops (fun f' w' => f' = up F d v ∧ Inv w') [o] F w) ∧ YlL P n ops Inv F l r
  | _, _ => False
theorem Q0 {ops : Array Oper} : YlL P n ops Inv F [] [] := trivial
theorem Xd {ops : Array Oper} {o : Oper} {l : List Oper} {d : Nat} {v : Value} {r : List (Nat × Value)} (hd : o.dst = some d)
    (h : ∀ w, Inv w → WpO P n ops (fun f' w' => f' = up F d v ∧ Inv w') [o] F w) (t : YlL P n ops Inv F l r) : YlL P n ops Inv F (o :: l) ((d, v) :: r) := ⟨hd, h, t⟩
theorem yl {ops : Array Oper} {o : Oper} {l : List Oper} {d : Nat} {v : Value} {r : List (Nat × Value)} (hd : o.dst = some d)
    (h : ∀ w, Inv w → WpO P n ops (fun f' w' => f' = up F d v ∧ Inv w') [] (up F d v) w → WpO P n ops (fun f' w' => f' = up F d v ∧ Inv w') [o] F w) (t : YlL P n ops Inv F l r) : YlL P n ops Inv F (o :: l) ((d, v) :: r) :=
  Xd hd (fun w hi => h w hi (wpo_nil ⟨rfl, hi⟩)) t
theorem loc {i d : Nat} {o : Oper} {v : Value} {w : World} {a aF : Act} {K : Act → World → Prop} (hKe : ∀ a A A1, K a A → Ext A A1 → A1.tape = A.tape → K a A1) (ho : ops[i]? = some o) (hs : notSel o = true) (hd : o.dst = some d) (hdn : d < n) (hF : FEq n aF F)
    (h : WpO P n ops.toArray (fun f' w' => f' = up F d v ∧ Inv w') [o] F w) (hl : ∀ t ∈ looks ops o, a.tmps.getD t undef = F t)
    (hK : ∀ w', Inv w' → K (a.put (some d) v) w') : OpG P ops.toArray o K a w := by
  have h1 := R4 (o := o) h hF
  have hval : ∀ u w', (∃ f', FEq n (aF.put o.dst u) f' ∧ WpO P n ops.toArray (fun f' w' => f' = up F d v ∧ Inv w') [] f' w') → u = v ∧ K (a.put (some d) v) w' := by
    rintro u w' ⟨f', hf, A0, hE, hT, rfl, hi⟩
    rw [hd] at hf
    refine ⟨?_, hKe _ _ _ (hK _ hi) hE hT⟩
    have e1 := hf.at_ d
    rw [Hy, if_pos rfl] at e1
    rw [← e1]
    simp [Act.put, Array.getD, hF.size, hdn]
  have he : execOp a.eval o = execOp aF.eval o := Go.Dw.execOp_congr hs fun x hx => by
    cases x with
    | tmp t =>
      show a.tmps.getD t undef = aF.tmps.getD t undef
      rw [hl t (by simp only [looks]; refine List.mem_append_left _ (List.mem_filterMap.2 ⟨_, by simpa using hx, rfl⟩)), hF.at_ t]
    | _ => rfl
  have hw : Region.wanted o (yielded ops.toArray a.tmps) = Region.wanted o (yielded ops.toArray aF.tmps) := by
    unfold Region.wanted
    cases hg : o.guard with
    | none => rfl
    | some g =>
      obtain ⟨j, b⟩ := g
      simp only
      rw [W5 _ a.tmps aF.tmps j]
      intro oj dj hoj hdj
      rw [hF.at_ dj]
      refine hl dj ?_
      simp only [looks, hg]
      refine List.mem_append_right _ ?_
      have hoj' : ops[j]? = some oj := by simpa using hoj
      simp [hoj', hdj]
  have hput : a.put o.dst v = a.put (some d) v := by rw [hd]
  unfold OpG
  rw [hw, he]
  rcases h1 with ⟨h1, ⟨h2, h3⟩ | ⟨R, h4, h5⟩⟩ | ⟨h1, h3⟩
  · refine Or.inl ⟨h1, Or.inl ⟨h2, fun A1 hE => ?_⟩⟩
    obtain ⟨x, u, A1', h4, h5, h6⟩ := h3 A1 hE
    obtain ⟨rfl, hi⟩ := hval _ _ h6
    exact ⟨x, u, A1', h4, h5, hput ▸ hi⟩
  · refine Or.inl ⟨h1, Or.inr ⟨R, h4, fun u A' hR => ?_⟩⟩
    obtain ⟨rfl, hi⟩ := hval _ _ (h5 u A' hR)
    exact hput ▸ hi
  · obtain ⟨e, hi⟩ := hval _ _ h3
    rw [e]
    exact Or.inr ⟨h1, hput ▸ hi⟩
theorem Jm {md : Region.Mode} {m : Nat} {bs : List (List Nat)} {K : Act → World → Prop} (hmd : md = .any) (hck : ∀ i o, ops[i]? = some o → tailOne m bs i o = true) (hbs : ∀ (listed : Array Bool) (i : Nat) (o : Oper), ops[i]? = some o →
      (∀ e ∈ o.after, Region.binds .any e = true → listed.getD e.on false = true) → (∀ j, listed.getD j false = true → ∀ q ∈ bs.getD j [], listed.getD q false = true) → ∀ q ∈ bs.getD i [], listed.getD q false = true) :
    ∀ (fuel k : Nat) (listed : Array Bool) (a : Act) (w : World), m ≤ k → k ≤ ops.length → listed.size = ops.length → (∀ j, j < k → listed.getD j false = true) → (∀ j, k ≤ j → j < ops.length → listed.getD j false = false) →
      (∀ j, listed.getD j false = true → ∀ q ∈ bs.getD j [], listed.getD q false = true) → ops.length - k ≤ fuel → LstG P ops.toArray K (ops.drop k) a w → AnyJ P md ops.toArray K fuel listed a w := by
  subst hmd
  intro fuel
  induction fuel with
  | zero =>
    intro k listed a w hmk hk hsz h1 h2 hcl hf h
    have hke : k = ops.length := by omega
    subst hke
    refine ⟨?_, by simpa [LstG] using h⟩
    unfold Region.ready
    rw [List.filter_eq_nil_iff]
    intro i hi
    have hi' : i < ops.length := by simpa using hi
    have hl := h1 i hi'
    have : listed.getD i true = true := by
      rw [Array.getD_eq_getD_getElem?] at hl ⊢
      cases hx : listed[i]? with
      | none => rfl
      | some b => rw [hx] at hl; simpa using hl
    simp [this]
  | succ fuel ih =>
    intro k listed a w hmk hk hsz h1 h2 hcl hf h
    have hready : ∀ i, i ∈ Region.ready .any ops.toArray listed → i = k ∧ k < ops.length := by
      intro i hi
      obtain ⟨hun, o, ho, hall⟩ := mem_ready.1 hi
      have ho' : ops[i]? = some o := by simpa using ho
      have hil : i < ops.length := (List.getElem?_eq_some_iff.1 ho').1
      have hun' : listed.getD i false = false := by
        rw [Array.getD_eq_getD_getElem?] at hun ⊢
        cases hx : listed[i]? with
        | none => rfl
        | some b => rw [hx] at hun; simpa using hun
      have hik : k ≤ i := by
        rcases Nat.lt_or_ge i k with h' | h'
        · rw [h1 i h'] at hun'; cases hun'
        · exact h'
      have hpre := hbs listed i o ho' (fun e he hb => hall e he hb) hcl
      have hone := hck i o ho'
      unfold tailOne at hone
      simp only [Bool.and_eq_true] at hone
      have h3 := hone.2
      rw [show decide (i < m) = false by simp; omega, Bool.false_or] at h3
      refine ⟨?_, by omega⟩
      rcases Nat.lt_or_ge k i with h' | h'
      · have := List.all_eq_true.1 h3 k (by simpa using h')
        have hmem : k ∈ bs.getD i [] := by simpa using this
        have := hpre k hmem
        rw [h2 k (Nat.le_refl _) (by omega)] at this
        cases this
      · omega
    rcases Nat.lt_or_ge k ops.length with hkl | hkl
    · obtain ⟨o, ho⟩ : ∃ o, ops[k]? = some o := ⟨_, List.getElem?_eq_getElem hkl⟩
      have hdrop : ops.drop k = o :: ops.drop (k + 1) := by
        rw [List.drop_eq_getElem_cons hkl]
        congr 1
        rw [List.getElem?_eq_getElem hkl] at ho
        exact Option.some.inj ho
      rw [hdrop] at h
      refine ⟨fun hnil => ?_, fun i hi => ?_⟩
      · exfalso
        have hkr : k ∈ Region.ready .any ops.toArray listed := by
          refine mem_ready.2 ⟨?_, o, by simpa using ho, fun e he hb => ?_⟩
          · have := h2 k (Nat.le_refl _) hkl
            rw [Array.getD_eq_getD_getElem?, Array.getElem?_eq_getElem (by omega)] at this ⊢
            simpa using this
          · have hone := hck k o ho
            unfold tailOne at hone
            simp only [Bool.and_eq_true] at hone
            have := List.all_eq_true.1 hone.1.1 e (by simpa using he)
            simp only [hb, Bool.not_true, Bool.false_or, decide_eq_true_eq] at this
            exact h1 _ this
        rw [hnil] at hkr
        cases hkr
      · obtain ⟨rfl, _⟩ := hready i hi
        have ho' : ops.toArray[i]? = some o := by simpa using ho
        have hnext : ∀ a w, LstG P ops.toArray K (ops.drop (i + 1)) a w → AnyJ P .any ops.toArray K fuel (listed.setIfInBounds i true) a w := fun a w hh =>
          ih (i + 1) _ a w (by omega) hkl (by simp [hsz]) (fun j hj => by
            rcases Nat.lt_or_ge j i with h' | h'
            · have := h1 j h'
              rw [Array.getD_eq_getD_getElem?] at this ⊢
              rw [Array.getElem?_setIfInBounds_ne (by omega)]; exact this
            · have : j = i := by omega
              subst this
              rw [Array.getD_eq_getD_getElem?, Array.getElem?_setIfInBounds_self_of_lt (by omega)]; rfl)
            (fun j hj hjl => by
              have := h2 j (by omega) hjl
              rw [Array.getD_eq_getD_getElem?] at this ⊢
              rw [Array.getElem?_setIfInBounds_ne (by omega)]; exact this)
            (fun j hj q hq => by
              have hq' : listed.getD q false = true := by
                rcases Nat.decEq j i with hne | he
                · refine hcl j ?_ q hq
                  rw [Array.getD_eq_getD_getElem?, Array.getElem?_setIfInBounds_ne (fun e => hne e.symm)] at hj
                  rw [Array.getD_eq_getD_getElem?]; exact hj
                · subst he
                  obtain ⟨_, o2, ho2, hall⟩ := mem_ready.1 hi
                  exact hbs listed j o2 (by simpa using ho2) (fun e he hb => hall e he hb) hcl q hq
              rw [Array.getD_eq_getD_getElem?] at hq' ⊢
              by_cases hqi : q = i
              · subst hqi
                rw [Array.getElem?_setIfInBounds_self_of_lt (by omega)]; rfl
              · rw [Array.getElem?_setIfInBounds_ne (fun e => hqi e.symm)]; exact hq')
            (by omega) hh
        exact ⟨o, ho', h.mono hnext⟩
    · have hke : k = ops.length := by omega
      subst hke
      refine ⟨fun _ => by simpa [LstG] using h, fun i hi => ?_⟩
      have := (hready i hi).2
      omega
theorem Vv {opsA : Array Oper} : ∀ (l : List Oper) (r : List (Nat × Value)), YlL P n opsA Inv F l r → l.length = r.length ∧ ∀ (i : Nat) (o : Oper), l[i]? = some o → ∃ (d : Nat) (v : Value), r[i]? = some (d, v) ∧ o.dst = some d ∧ ∀ w, Inv w → WpO P n opsA (fun f' w' => f' = up F d v ∧ Inv w') [o] F w
  | [], [], _ => ⟨rfl, fun i o h => by simp at h⟩
  | [], _ :: _, h => h.elim
  | _ :: _, [], h => h.elim
  | o :: l, (d, v) :: r, ⟨h1, h2, h3⟩ => by
    obtain ⟨hl, hg⟩ := Vv l r h3
    refine ⟨by simp [hl], fun i o' h => ?_⟩
    cases i with
    | zero =>
      simp at h
      subst h
      exact ⟨d, v, rfl, h1, h2⟩
    | succ i => simpa using hg i o' (by simpa using h)
theorem Wa {m : Nat} {bs : List (List Nat)} {vals : List (Nat × Value)} {Kf : Fr → World → Prop} {K : Act → World → Prop} {aF : Act} (hext : ∀ a A A1, K a A → Ext A A1 → A1.tape = A.tape → K a A1) (hck : drawOk n m ops bs = true) (hF : F = ups f vals) (haF : FEq n aF F)
    (hpre : YlL P n ops.toArray Inv F (ops.take m) vals) (htail : ∀ w, Inv w → WpO P n ops.toArray Kf (ops.drop m) F w) (hQ : ∀ a' f' w', FEq n a' f' → Kf f' w' → K a' w') :
    ∀ (fuel : Nat) (listed : Array Bool) (a : Act) (w : World), a.defers = [] → a.tmps.size = n → listed.size = ops.length → Inv w → (∀ j, m ≤ j → listed.getD j false = false) →
      (∀ j, listed.getD j false = true → ∀ q ∈ bs.getD j [], listed.getD q false = true) →
      (∀ t, (∀ j o, j < m → listed.getD j false = true → ops[j]? = some o → o.dst ≠ some t) → a.tmps.getD t undef = f t) →
      (∀ j o t, j < m → listed.getD j false = true → ops[j]? = some o → o.dst = some t → a.tmps.getD t undef = F t) → cnt listed ops.length ≤ fuel → AnyJ P .any ops.toArray K fuel listed a w := by
  obtain ⟨hm, hdist, hone⟩ := Go.Dw.drawOk_spec hck
  obtain ⟨hlen, hget⟩ := Vv _ _ hpre
  have htk : ∀ i o, i < m → ops[i]? = some o → (ops.take m)[i]? = some o := fun i o hi ho => by rw [List.getElem?_take, if_pos hi]; exact ho
  have hFd : ∀ i o d v, i < m → ops[i]? = some o → vals[i]? = some (d, v) → o.dst = some d → F d = v := fun i o d v hi ho hv hd => by
    rw [hF]
    refine Nm vals f i hv fun j p hj e => ?_
    have hjm : j < m := by
      have := (List.getElem?_eq_some_iff.1 hj).1
      rw [← hlen] at this
      simp at this
      omega
    rcases Nat.decEq j i with hne | he
    · exfalso
      obtain ⟨oj, hoj⟩ : ∃ oj, ops[j]? = some oj := ⟨_, List.getElem?_eq_getElem (by omega)⟩
      obtain ⟨d', v', hv', hd', _⟩ := hget j oj (htk j oj hjm hoj)
      rw [hj] at hv'
      have := Option.some.inj hv'
      subst this
      exact hdist j i oj o hjm hi hne hoj ho (by rw [hd', hd, ← e])
    · exact he
  have hFo : ∀ t, (∀ j o, j < m → ops[j]? = some o → o.dst ≠ some t) → F t = f t := fun t ht => by
    rw [hF]
    refine G3 vals f fun p hp e => ?_
    obtain ⟨j, hj⟩ := List.getElem?_of_mem hp
    have hjm : j < m := by
      have := (List.getElem?_eq_some_iff.1 hj).1
      rw [← hlen] at this
      simp at this
      omega
    obtain ⟨oj, hoj⟩ : ∃ oj, ops[j]? = some oj := ⟨_, List.getElem?_eq_getElem (by omega)⟩
    obtain ⟨d', v', hv', hd', _⟩ := hget j oj (htk j oj hjm hoj)
    rw [hj] at hv'
    have := Option.some.inj hv'
    subst this
    exact ht j oj hjm hoj (by rw [hd', ← e])
  intro fuel
  induction fuel with
  | zero =>
    intro listed a w had hsz hls hi hlow hcl hout hin hcnt
    have hz := V0 _ (Nat.le_zero.1 hcnt)
    refine Jm rfl (fun i o ho => Vt (hone i o ho)) (fun l i o ho hall hc => Jg (hone i o ho) l hall hc) 0 m listed a w (Nat.le_refl _) hm hls (fun j hj => hz j (by omega)) (fun j hj _ => hlow j hj) hcl ?_ ?_
    · have := Vk (listed := listed) (m := m) ops.length fun j h1 _ => hlow j h1
      omega
    · refine Wl hext hQ _ _ _ a ⟨had, hsz, fun t => ?_⟩ (htail w hi)
      by_cases hx : ∃ j o, j < m ∧ ops[j]? = some o ∧ o.dst = some t
      · obtain ⟨j, o, hj, ho, hd⟩ := hx
        exact hin j o t hj (hz j (by omega)) ho hd
      · rw [hFo t fun j o hj ho hd => hx ⟨j, o, hj, ho, hd⟩]
        exact hout t fun j o hj _ ho hd => hx ⟨j, o, hj, ho, hd⟩
  | succ fuel ih =>
    intro listed a w had hsz hls hi hlow hcl hout hin hcnt
    by_cases hall : ∀ j, j < m → listed.getD j false = true
    · refine Jm rfl (fun i o ho => Vt (hone i o ho)) (fun l i o ho hall hc => Jg (hone i o ho) l hall hc) (fuel + 1) m listed a w (Nat.le_refl _) hm hls hall (fun j hj _ => hlow j hj) hcl ?_ ?_
      · have := Vk (listed := listed) (m := m) ops.length fun j h1 _ => hlow j h1
        omega
      · refine Wl hext hQ _ _ _ a ⟨had, hsz, fun t => ?_⟩ (htail w hi)
        by_cases hx : ∃ j o, j < m ∧ ops[j]? = some o ∧ o.dst = some t
        · obtain ⟨j, o, hj, ho, hd⟩ := hx
          exact hin j o t hj (hall j hj) ho hd
        · rw [hFo t fun j o hj ho hd => hx ⟨j, o, hj, ho, hd⟩]
          exact hout t fun j o hj _ ho hd => hx ⟨j, o, hj, ho, hd⟩
    · obtain ⟨j0, hj0, hun0, hbelow⟩ := Pg m hall
      refine ⟨fun hnil => ?_, fun i hir => ?_⟩
      · exfalso
        obtain ⟨o, ho⟩ : ∃ o, ops[j0]? = some o := ⟨_, List.getElem?_eq_getElem (by omega)⟩
        have hkr : j0 ∈ Region.ready .any ops.toArray listed := by
          refine mem_ready.2 ⟨?_, o, by simpa using ho, fun e he hb => ?_⟩
          · rw [Array.getD_eq_getD_getElem?, Array.getElem?_eq_getElem (by omega)] at hun0 ⊢
            simpa using hun0
          · have h1 := hone j0 o ho
            unfold drawOne at h1
            simp only [Bool.and_eq_true] at h1
            have := List.all_eq_true.1 h1.1.1 e (by simpa using he)
            simp only [hb, Bool.not_true, Bool.false_or, decide_eq_true_eq] at this
            exact hbelow _ this
        rw [hnil] at hkr
        cases hkr
      · obtain ⟨hun, o, ho, hafter⟩ := mem_ready.1 hir
        have ho' : ops[i]? = some o := by simpa using ho
        have hil : i < ops.length := (List.getElem?_eq_some_iff.1 ho').1
        have hun' : listed.getD i false = false := by
          rw [Array.getD_eq_getD_getElem?, Array.getElem?_eq_getElem (by omega)] at hun ⊢
          simpa using hun
        have hprei := Jg (hone i o ho') listed (fun e he hb => hafter e he hb) hcl
        have h1 := hone i o ho'
        unfold drawOne at h1
        simp only [Bool.and_eq_true] at h1
        obtain ⟨_, h1⟩ := h1
        have him : i < m := by
          rcases Nat.lt_or_ge i m with h' | h'
          · exact h'
          · exfalso
            rw [if_neg (by omega)] at h1
            have := List.all_eq_true.1 h1 j0 (by simp; omega)
            have := hprei j0 (by simpa using this)
            rw [hun0] at this
            cases this
        rw [if_pos him] at h1
        simp only [Bool.and_eq_true] at h1
        obtain ⟨⟨hsel, hdn⟩, hlooks⟩ := h1
        obtain ⟨d, v, hv, hd, hwp⟩ := hget i o (htk i o him ho')
        rw [hd] at hdn
        have hdn' : d < n := by simpa using hdn
        refine ⟨o, ho, loc (fun a A A1 h => AnyJ.ext hext h) ho' hsel hd hdn' haF (hwp w hi) (fun t ht => ?_) fun w' hi' => ?_⟩
        · have h2 := List.all_eq_true.1 hlooks t ht
          by_cases hx : ∃ j oj, j < m ∧ ops[j]? = some oj ∧ oj.dst = some t
          · obtain ⟨j, oj, hj, hoj, hdj⟩ := hx
            have h3 := List.all_eq_true.1 h2 j (by simpa using hj)
            rw [hoj] at h3
            simp [hdj] at h3
            exact hin j oj t hj (hprei j (by simpa using h3)) hoj hdj
          · rw [hFo t fun j o hj ho hd => hx ⟨j, o, hj, ho, hd⟩]
            exact hout t fun j o hj _ ho hd => hx ⟨j, o, hj, ho, hd⟩
        · have hput : ∀ t, t ≠ d → (a.put (some d) v).tmps.getD t undef = a.tmps.getD t undef := fun t ht => by
            simp only [Act.put]
            rw [Array.getD_eq_getD_getElem?, Array.getElem?_setIfInBounds_ne (fun e => ht e.symm), Array.getD_eq_getD_getElem?]
          have hputd : (a.put (some d) v).tmps.getD d undef = v := by
            simp only [Act.put]
            rw [Array.getD_eq_getD_getElem?, Array.getElem?_setIfInBounds_self_of_lt (by omega)]; rfl
          have hFv : F d = v := hFd i o d v him ho' hv hd
          refine ih _ _ w' had (by simp [Act.put, hsz]) (by simp [hls]) hi' (fun j hj => by rw [Yk (by omega)]; exact hlow j hj) (fun j hj q hq => ?_) (fun t ht => ?_) (fun j oj t hj hlj hoj hdj => ?_) ?_
          · have hq' : listed.getD q false = true := by
              rcases Nat.decEq j i with hne | he
              · rw [Yk hne] at hj
                exact hcl j hj q hq
              · subst he
                exact hprei q hq
            by_cases hqi : q = i
            · rw [hqi]; exact Qi (by omega)
            · rw [Yk hqi]; exact hq'
          · have htd : t ≠ d := fun e => ht i o him (Qi (by omega)) ho' (by rw [hd, e])
            rw [hput t htd]
            exact hout t fun j oj hj hlj hoj => ht j oj hj (by
              by_cases hji : j = i
              · rw [hji]; exact Qi (by omega)
              · rw [Yk hji]; exact hlj) hoj
          · rcases Nat.decEq t d with htd | htd
            · rw [hput t htd]
              rcases Nat.decEq j i with hne | he
              · rw [Yk hne] at hlj
                exact hin j oj t hj hlj hoj hdj
              · subst he
                rw [ho'] at hoj
                obtain rfl := Option.some.inj hoj
                rw [hd] at hdj
                exact absurd (Option.some.inj hdj).symm htd
            · subst htd
              rw [hputd, hFv]
          · have := Wb (listed := listed) (i := i) (by omega) hun' ops.length hil
            omega
theorem Closed.draw {J : Goroutine → World → Prop} (hJ : Closed P J) {ops : Array Oper} {b : Frame} (hb : b.kind ≠ .early) {K : Act → World → Prop} {k : List Item} {cs : List Frame} {a : Act} {w : World} {id : Nat} (hmx : P.follows .mixedOrders = true) (hk : ∀ a A, K a A → J (G (ato b a k) cs) A)
    (h : AnyJ P .any ops K ops.size (Array.replicate ops.size false) a w.drew) : J (G (ato b a (.code (.region id ops true) :: k)) cs) w :=
  hJ.step _ _ (.quiet rfl fun w1 hs => ⟨_, w.drew, { w1 with drawn := w1.drawn + 1 }, #[], Ww, rfl, ⟨hs.os, hs.output, hs.size, hs.vis, hs.nv⟩, ⟨fun b _ h => ⟨rfl, h⟩, fun b h => ⟨rfl, rfl⟩, fun b _ h => h, fun b h => h, Nat.le_refl _, rfl, rfl, rfl, fun b _ h => h⟩, by simp, by
    simp only [Region.schedule, hmx, Bool.true_or, if_true]
    exact M0 hJ hb hk _ _ _ _ _ h⟩)
theorem Qh {id : Nat} {w : World} {Q : Exit → Fr → World → Prop} (m : Nat) (vals : List (Nat × Value)) (Inv : World → Prop) (hmx : P.follows .mixedOrders = true) (hck : drawOk n m ops (befores ops) = true) (h0 : Inv w.drew)
    (hpre : YlL P n ops.toArray Inv (ups f vals) (ops.take m) vals) (htail : ∀ w', Inv w' → WpO P n ops.toArray (Q .normal) (ops.drop m) (ups f vals) w') : Wpf P n Q (.region id ops.toArray true) f w := fun J hJ b hb k cs a ha hc => by
  obtain ⟨hm, _, hone⟩ := Go.Dw.drawOk_spec hck
  obtain ⟨hlen, hget⟩ := Vv _ _ hpre
  obtain ⟨aF, haF⟩ := Nl vals a f ha fun p hp => by
    obtain ⟨j, hj⟩ := List.getElem?_of_mem hp
    have hjm : j < m := by
      have := (List.getElem?_eq_some_iff.1 hj).1
      rw [← hlen] at this
      simp at this
      omega
    obtain ⟨oj, hoj⟩ : ∃ oj, ops[j]? = some oj := ⟨_, List.getElem?_eq_getElem (by omega)⟩
    obtain ⟨d, v, hv, hd, _⟩ := hget j oj (by rw [List.getElem?_take, if_pos hjm]; exact hoj)
    rw [hj] at hv
    have := Option.some.inj hv
    subst this
    have h1 := hone j oj hoj
    unfold drawOne at h1
    simp only [Bool.and_eq_true, if_pos hjm, hd] at h1
    simpa using h1.2.1.2
  refine hJ.draw (K := fun a A => J (G (ato b a k) cs) A) hb hmx (fun _ _ h => h) ?_
  have hrep : ∀ j, (Array.replicate ops.toArray.size false).getD j false = false := fun j => by
    rw [Array.getD_eq_getD_getElem?]
    cases h : (Array.replicate ops.toArray.size false)[j]? with
    | none => rfl
    | some b => rw [Array.getElem?_replicate] at h; split at h <;> simp_all
  refine Wa (Kf := Q .normal) (K := fun a A => J (G (ato b a k) cs) A) (fun a A A1 hh hE hT => hJ.ext _ _ _ hE hT hh) hck rfl haF hpre htail (fun a' f' w' hf hK => hc .normal a' f' w' hf hK) _ _ a _ ha.defers ha.size (by simp) h0 (fun j _ => hrep j) (fun j hj => by rw [hrep j] at hj; cases hj) (fun t _ => ha.at_ t) (fun j o t _ hj => by rw [hrep j] at hj; cases hj) ?_
  rw [show ops.toArray.size = ops.length by simp, Vz]
  exact Nat.le_refl _
theorem Uf {m : Nat} {bs : List (List Nat)} {I : (Nat → Bool) → Fr → World → Prop} {Kf : Fr → World → Prop} {K : Act → World → Prop} (hext : ∀ a A A1, K a A → Ext A A1 → A1.tape = A.tape → K a A1) (hm : m ≤ ops.length) (hone : ∀ i o, ops[i]? = some o → tailOne m bs i o = true)
    (hpre : ∀ i o, i < m → ops[i]? = some o → ∀ S F w, S i = false → (∀ j ∈ bs.getD i [], S j = true) → (∀ j, S j = true → ∀ q ∈ bs.getD j [], S q = true) → I S F w →
      WpO P n ops.toArray (fun F' w' => I (fun j => j == i || S j) F' w') [o] F w)
    (htail : ∀ S F w, (∀ j, j < m → S j = true) → I S F w → WpO P n ops.toArray Kf (ops.drop m) F w) (hQ : ∀ a' f' w', FEq n a' f' → Kf f' w' → K a' w') :
    ∀ (fuel : Nat) (listed : Array Bool) (a : Act) (F : Fr) (w : World), FEq n a F → listed.size = ops.length → I (fun j => listed.getD j false) F w → (∀ j, m ≤ j → listed.getD j false = false) →
      (∀ j, listed.getD j false = true → ∀ q ∈ bs.getD j [], listed.getD q false = true) → cnt listed ops.length ≤ fuel → AnyJ P .any ops.toArray K fuel listed a w := by
  intro fuel
  induction fuel with
  | zero =>
    intro listed a F w ha hls hi hlow hcl hcnt
    have hz := V0 _ (Nat.le_zero.1 hcnt)
    refine Jm rfl hone (fun l i o ho hall hc => Go.Dw.tailOne_closed (hone i o ho) l hall hc) 0 m listed a w (Nat.le_refl _) hm hls (fun j hj => hz j (by omega)) (fun j hj _ => hlow j hj) hcl ?_ ?_
    · have := Vk (listed := listed) (m := m) ops.length fun j h1 _ => hlow j h1
      omega
    · exact Wl hext hQ _ _ _ a ha (htail _ F w (fun j hj => hz j (by omega)) hi)
  | succ fuel ih =>
    intro listed a F w ha hls hi hlow hcl hcnt
    by_cases hall : ∀ j, j < m → listed.getD j false = true
    · refine Jm rfl hone (fun l i o ho hall hc => Go.Dw.tailOne_closed (hone i o ho) l hall hc) (fuel + 1) m listed a w (Nat.le_refl _) hm hls hall (fun j hj _ => hlow j hj) hcl ?_ ?_
      · have := Vk (listed := listed) (m := m) ops.length fun j h1 _ => hlow j h1
        omega
      · exact Wl hext hQ _ _ _ a ha (htail _ F w hall hi)
    · obtain ⟨j0, hj0, hun0, hbelow⟩ := Pg m hall
      refine ⟨fun hnil => ?_, fun i hir => ?_⟩
      · exfalso
        obtain ⟨o, ho⟩ : ∃ o, ops[j0]? = some o := ⟨_, List.getElem?_eq_getElem (by omega)⟩
        have hkr : j0 ∈ Region.ready .any ops.toArray listed := by
          refine mem_ready.2 ⟨?_, o, by simpa using ho, fun e he hb => ?_⟩
          · rw [Array.getD_eq_getD_getElem?, Array.getElem?_eq_getElem (by omega)] at hun0 ⊢
            simpa using hun0
          · have h1 := hone j0 o ho
            unfold tailOne at h1
            simp only [Bool.and_eq_true] at h1
            have := List.all_eq_true.1 h1.1.1 e (by simpa using he)
            simp only [hb, Bool.not_true, Bool.false_or, decide_eq_true_eq] at this
            exact hbelow _ this
        rw [hnil] at hkr
        cases hkr
      · obtain ⟨hun, o, ho, hafter⟩ := mem_ready.1 hir
        have ho' : ops[i]? = some o := by simpa using ho
        have hil : i < ops.length := (List.getElem?_eq_some_iff.1 ho').1
        have hun' : listed.getD i false = false := by
          rw [Array.getD_eq_getD_getElem?, Array.getElem?_eq_getElem (by omega)] at hun ⊢
          simpa using hun
        have hprei := Go.Dw.tailOne_closed (hone i o ho') listed (fun e he hb => hafter e he hb) hcl
        have him : i < m := by
          rcases Nat.lt_or_ge i m with h' | h'
          · exact h'
          · exfalso
            have h1 := hone i o ho'
            unfold tailOne at h1
            simp only [Bool.and_eq_true] at h1
            have h3 := h1.2
            rw [show decide (i < m) = false by simp; omega, Bool.false_or] at h3
            have := List.all_eq_true.1 h3 j0 (by simp; omega)
            have := hprei j0 (by simpa using this)
            rw [hun0] at this
            cases this
        refine ⟨o, ho, (R4 (o := o) (hpre i o him ho' _ F w hun' hprei hcl hi) ha).mono fun a' w' ⟨f', hf, A0, hE, hT, hI'⟩ => ?_⟩
        refine AnyJ.ext hext (A := A0) ?_ hE hT
        refine ih _ _ f' A0 hf (by simp [hls]) ?_ (fun j hj => by rw [Yk (by omega)]; exact hlow j hj) (fun j hj q hq => ?_) ?_
        · rw [N6 (by omega)]; exact hI'
        · have hq' : listed.getD q false = true := by
            rcases Nat.decEq j i with hne | he
            · rw [Yk hne] at hj
              exact hcl j hj q hq
            · subst he
              exact hprei q hq
          by_cases hqi : q = i
          · rw [hqi]; exact Qi (by omega)
          · rw [Yk hqi]; exact hq'
        · have := Wb (listed := listed) (i := i) (by omega) hun' ops.length hil
          omega
def PreL (P : Program) (n : Nat) (ops : Array Oper) (bs : List (List Nat)) (I : (Nat → Bool) → Fr → World → Prop) : Nat → List Oper → Prop
  | _, [] => True
  | i, o :: l => (∀ S F w, S i = false → (∀ j ∈ bs.getD i [], S j = true) → (∀ j, S j = true → ∀ q ∈ bs.getD j [], S q = true) → I S F w → WpO P n ops (fun F' w' => I (fun j => j == i || S j) F' w') [o] F w) ∧ PreL P n ops bs I (i + 1) l
theorem Kj {ops : Array Oper} {bs : List (List Nat)} {I : (Nat → Bool) → Fr → World → Prop} {i : Nat} : PreL P n ops bs I i [] := trivial
theorem Xu {ops : Array Oper} {bs : List (List Nat)} {I : (Nat → Bool) → Fr → World → Prop} {i : Nat} {o : Oper} {l : List Oper}
    (h : ∀ S F w, S i = false → (∀ j ∈ bs.getD i [], S j = true) → (∀ j, S j = true → ∀ q ∈ bs.getD j [], S q = true) → I S F w → WpO P n ops (fun F' w' => I (fun j => j == i || S j) F' w') [o] F w)
    (t : PreL P n ops bs I (i + 1) l) : PreL P n ops bs I i (o :: l) := ⟨h, t⟩
theorem V6 {opsA : Array Oper} {bs : List (List Nat)} {I : (Nat → Bool) → Fr → World → Prop} : ∀ (l : List Oper) (k i : Nat) (o : Oper), PreL P n opsA bs I k l → l[i]? = some o →
    ∀ S F w, S (k + i) = false → (∀ j ∈ bs.getD (k + i) [], S j = true) → (∀ j, S j = true → ∀ q ∈ bs.getD j [], S q = true) → I S F w → WpO P n opsA (fun F' w' => I (fun j => j == k + i || S j) F' w') [o] F w
  | [], _, _, _, _, ho => by simp at ho
  | p :: l, k, 0, o, h, ho => by
    obtain rfl : p = o := by simpa using ho
    exact h.1
  | p :: l, k, i + 1, o, h, ho => by
    have := V6 l (k + 1) i o h.2 (by simpa using ho)
    rwa [show k + 1 + i = k + (i + 1) by omega] at this
theorem J4 {id : Nat} {w : World} {Q : Exit → Fr → World → Prop} (m : Nat) (bs : List (List Nat)) (I : (Nat → Bool) → Fr → World → Prop) (hmx : P.follows .mixedOrders = true) (hck : drawOkI m ops bs = true) (h0 : I (fun _ => false) f w.drew)
    (hpre : PreL P n ops.toArray bs I 0 (ops.take m)) (htail : ∀ S F w, (∀ j, j < m → S j = true) → I S F w → WpO P n ops.toArray (Q .normal) (ops.drop m) F w) : Wpf P n Q (.region id ops.toArray true) f w := fun J hJ b hb k cs a ha hc => by
  unfold drawOkI at hck
  simp only [Bool.and_eq_true, decide_eq_true_eq] at hck
  obtain ⟨hm, hck⟩ := hck
  have hone : ∀ i o, ops[i]? = some o → tailOne m bs i o = true := fun i o ho => by
    have := List.all_eq_true.1 hck i (by simpa using (List.getElem?_eq_some_iff.1 ho).1)
    rw [ho] at this
    exact this
  refine hJ.draw (K := fun a A => J (G (ato b a k) cs) A) hb hmx (fun _ _ h => h) ?_
  have hrep : ∀ j, (Array.replicate ops.toArray.size false).getD j false = false := fun j => by
    rw [Array.getD_eq_getD_getElem?]
    cases h : (Array.replicate ops.toArray.size false)[j]? with
    | none => rfl
    | some b => rw [Array.getElem?_replicate] at h; split at h <;> simp_all
  refine Uf (Kf := Q .normal) (K := fun a A => J (G (ato b a k) cs) A) (fun a A A1 hh hE hT => hJ.ext _ _ _ hE hT hh) hm hone (fun i o hi ho S F w h1 h2 h3 h4 => ?_) htail (fun a' f' w' hf hK => hc .normal a' f' w' hf hK) _ _ a f _ ha (by simp) (by simp only [hrep]; exact h0) (fun j _ => hrep j) (fun j hj => by rw [hrep j] at hj; cases hj) ?_
  · have := V6 _ 0 i o hpre (by rw [List.getElem?_take, if_pos hi]; exact ho) S F w (by simpa using h1) (by simpa using h2) h3 h4
    simpa using this
  · rw [show ops.toArray.size = ops.length by simp, Vz]
    exact Nat.le_refl _
end
end Go.Dw.J
end
section
namespace Go.Dw.J
open Go.RowKit Go.Dw Go.Proofs
set_option linter.unusedSectionVars false
set_option maxRecDepth 100000
set_option maxHeartbeats 4000000
set_option linter.unusedSimpArgs false
set_option linter.unusedVariables false
theorem Vm : fieldOff Try.prog 25 0 = some 0 := by kernel_rfl
theorem Uj : fieldOff Try.prog 25 1 = some 1 := by kernel_rfl
theorem Qx : fieldOff Try.prog 74 0 = some 0 := by kernel_rfl
theorem J8 : fieldOff Try.prog 74 1 = some 1 := by kernel_rfl
theorem Lx : fieldOff Try.prog 74 3 = some 3 := by kernel_rfl
theorem Wh : fieldOff Try.prog 74 4 = some 4 := by kernel_rfl
theorem Hf : goFn Try.prog 38 = true := by kernel_rfl
theorem Ep : goFn Try.prog 48 = true := by kernel_rfl
theorem Er : goFn Try.prog 49 = true := by kernel_rfl
theorem X0 : oneTy Try.prog 3 = true := by kernel_rfl
theorem Vx : oneTy Try.prog 4 = true := by kernel_rfl
theorem Yr : rowTy Try.prog 25 = some 2 := by kernel_rfl
theorem Y1 : rowTy Try.prog 74 = some 5 := by kernel_rfl
theorem Qq : Try.prog.follows .mixedOrders = true := by kernel_rfl
theorem M7 (x y : Operand) (a b : Rt) (w : World) : (eqGuard .eql 74 x y (.agg a.cells.toArray) (.agg b.cells.toArray)).run Try.prog w = .ok () w := by kernel_rfl
theorem Rv (a b : Rt) (w : World) : (binOp .eql 74 (.agg a.cells.toArray) (.agg b.cells.toArray)).run Try.prog w = .ok (.bool (decide (a = b))) w := by
  have h := run_equalIn_struct (P := Try.prog) w 9999 74 a.cells.toArray b.cells.toArray (by kernel_rfl) (by kernel_rfl)
  obtain ⟨a0, a1, a2, a3, a4⟩ := a
  obtain ⟨b0, b1, b2, b3, b4⟩ := b
  simp only [binOp, Op.equal, Op.maxDepth, Sem.run_bind, Rt.cells] at h ⊢
  rw [h]
  simp [go_sem]
  (repeat' split) <;> simp_all
theorem B4 (x y : Operand) (a b : Rt) (w : World) : (eqGuard .neq 74 x y (.agg a.cells.toArray) (.agg b.cells.toArray)).run Try.prog w = .ok () w := by kernel_rfl
theorem B5 (a b : Rt) (w : World) : (binOp .neq 74 (.agg a.cells.toArray) (.agg b.cells.toArray)).run Try.prog w = .ok (.bool (!decide (a = b))) w := by
  have h := Rv a b w
  have h2 := run_equalIn_struct (P := Try.prog) w 9999 74 a.cells.toArray b.cells.toArray (by kernel_rfl) (by kernel_rfl)
  obtain ⟨a0, a1, a2, a3, a4⟩ := a
  obtain ⟨b0, b1, b2, b3, b4⟩ := b
  simp only [binOp, Op.equal, Op.maxDepth, Sem.run_bind, Rt.cells] at h h2 ⊢
  rw [h2] at h ⊢
  revert h
  simp [go_sem]
  (repeat' split) <;> simp_all
theorem E8 (x y : Operand) (a b : Lab) (w : World) : (eqGuard .eql 25 x y (.agg a.cells.toArray) (.agg b.cells.toArray)).run Try.prog w = .ok () w := by kernel_rfl
theorem M8 (a b : Lab) (w : World) : (binOp .eql 25 (.agg a.cells.toArray) (.agg b.cells.toArray)).run Try.prog w = .ok (.bool (decide (a = b))) w := by
  have h := run_equalIn_struct (P := Try.prog) w 9999 25 a.cells.toArray b.cells.toArray (by kernel_rfl) (by kernel_rfl)
  obtain ⟨a0, a1⟩ := a
  obtain ⟨b0, b1⟩ := b
  simp only [binOp, Op.equal, Op.maxDepth, Sem.run_bind, Lab.cells] at h ⊢
  rw [h]
  simp [go_sem]
  (repeat' split) <;> simp_all
theorem Fg (x y : Operand) (a b : Lab) (w : World) : (eqGuard .neq 25 x y (.agg a.cells.toArray) (.agg b.cells.toArray)).run Try.prog w = .ok () w := by kernel_rfl
theorem Fh (a b : Lab) (w : World) : (binOp .neq 25 (.agg a.cells.toArray) (.agg b.cells.toArray)).run Try.prog w = .ok (.bool (!decide (a = b))) w := by
  have h := M8 a b w
  have h2 := run_equalIn_struct (P := Try.prog) w 9999 25 a.cells.toArray b.cells.toArray (by kernel_rfl) (by kernel_rfl)
  obtain ⟨a0, a1⟩ := a
  obtain ⟨b0, b1⟩ := b
  simp only [binOp, Op.equal, Op.maxDepth, Sem.run_bind, Lab.cells] at h h2 ⊢
  rw [h2] at h ⊢
  revert h
  simp [go_sem]
  (repeat' split) <;> simp_all
theorem J1 [Comp] (l : Lab) (w : World) : CallsR Try.prog 38 #[.agg #[.int .i64 l.s, .int .i64 l.v]] w (fun v w' => v = .bool (labelOk l) ∧ w.grownBy w' none) := by
 refine Xp (n := 21) Try.func38 rfl Try.ntmps38 rfl ?_
 have hb0 := World.grownBy.refl w none
 refine Xa ?_
 refine wpo_box (v := .agg #[.int .i64 l.s, .int .i64 l.v]) (cs := #[.int .i64 l.s, .int .i64 l.v]) rfl rfl rfl ?_
 intro B101 w102 hN103
 have hlB101 := X1 hN103 hb0
 have hb104 := low0 hb0 hN103.grw
 refine wpo_assign (v := .bool false) rfl rfl ?_
 refine wpo_nil ?_
 refine Xs (fun f' w' => (f' 2 = .bool ((((decide (0 ≤ l.s)) && (decide (l.s ≤ 3))) && (decide (0 ≤ l.v))) && (decide (l.v ≤ 3)))) ∧ w102 = w') ?_ ?_
 ·
  refine wpo_fieldAddr (o' := 0) Vm rfl rfl rfl ?_
  refine wpo_load1 (v := .int .i64 l.s) X0 rfl (hN103.blk.cell rfl) rfl ?_
  refine wpo_geq (q := decide (0 ≤ l.s)) rfl rfl rfl rfl ?_
  refine wpo_move (v := .bool (decide (0 ≤ l.s))) rfl rfl ?_
  rcases Xy (decide (0 ≤ l.s)) with h105 | h105
  ·
   have h106 := of_decide_eq_true h105
   refine Xc rfl rfl rfl h105 ?_
   refine wpo_fieldAddr (o' := 0) Vm rfl rfl rfl ?_
   refine Xc rfl rfl rfl h105 ?_
   refine wpo_load1 (v := .int .i64 l.s) X0 rfl (hN103.blk.cell rfl) rfl ?_
   refine Xc rfl rfl rfl h105 ?_
   refine wpo_leq (q := decide (l.s ≤ 3)) rfl rfl rfl rfl ?_
   refine wpo_pickt (v := .bool (decide (l.s ≤ 3))) rfl h105 rfl rfl ?_
   refine wpo_move (v := .bool (decide (l.s ≤ 3))) rfl rfl ?_
   rcases Xy (decide (l.s ≤ 3)) with h107 | h107
   ·
    have h108 := of_decide_eq_true h107
    refine Xc rfl rfl rfl h107 ?_
    refine wpo_fieldAddr (o' := 1) Uj rfl rfl rfl ?_
    refine Xc rfl rfl rfl h107 ?_
    refine wpo_load1 (v := .int .i64 l.v) X0 rfl (hN103.blk.cell rfl) rfl ?_
    refine Xc rfl rfl rfl h107 ?_
    refine wpo_geq (q := decide (0 ≤ l.v)) rfl rfl rfl rfl ?_
    refine wpo_pickt (v := .bool (decide (0 ≤ l.v))) rfl h107 rfl rfl ?_
    refine wpo_move (v := .bool (decide (0 ≤ l.v))) rfl rfl ?_
    rcases Xy (decide (0 ≤ l.v)) with h109 | h109
    ·
     have h110 := of_decide_eq_true h109
     refine Xc rfl rfl rfl h109 ?_
     refine wpo_fieldAddr (o' := 1) Uj rfl rfl rfl ?_
     refine Xc rfl rfl rfl h109 ?_
     refine wpo_load1 (v := .int .i64 l.v) X0 rfl (hN103.blk.cell rfl) rfl ?_
     refine Xc rfl rfl rfl h109 ?_
     refine wpo_leq (q := decide (l.v ≤ 3)) rfl rfl rfl rfl ?_
     refine wpo_pickt (v := .bool (decide (l.v ≤ 3))) rfl h109 rfl rfl ?_
     refine wpo_assign (v := .bool (decide (l.v ≤ 3))) rfl rfl ?_
     exact wpo_nil ⟨(congrArg Value.bool (by first | (simp only [h105, h107, h109, b0, b1, b2, b3, b4, b5, b6, b7, b8, b9]; done) | simp [h105, h107, h109])), rfl⟩
    ·
     have h111 := of_decide_eq_false h109
     iterate 3 refine Xe rfl rfl rfl h109 rfl ?_
     refine wpo_pickf (v := .bool false) rfl h109 rfl rfl ?_
     refine wpo_assign (v := .bool false) rfl rfl ?_
     exact wpo_nil ⟨(congrArg Value.bool (by first | (simp only [h105, h107, h109, b0, b1, b2, b3, b4, b5, b6, b7, b8, b9]; done) | simp [h105, h107, h109])), rfl⟩
   ·
    have h112 := of_decide_eq_false h107
    iterate 3 refine Xe rfl rfl rfl h107 rfl ?_
    refine wpo_pickf (v := .bool false) rfl h107 rfl rfl ?_
    refine wpo_move (v := .bool false) rfl rfl ?_
    iterate 3 refine Xe rfl rfl rfl rfl rfl ?_
    refine wpo_pickf (v := .bool false) rfl rfl rfl rfl ?_
    refine wpo_assign (v := .bool false) rfl rfl ?_
    exact wpo_nil ⟨(congrArg Value.bool (by first | (simp only [h105, h107, b0, b1, b2, b3, b4, b5, b6, b7, b8, b9]; done) | simp [h105, h107])), rfl⟩
  ·
   have h113 := of_decide_eq_false h105
   iterate 3 refine Xe rfl rfl rfl h105 rfl ?_
   refine wpo_pickf (v := .bool false) rfl h105 rfl rfl ?_
   refine wpo_move (v := .bool false) rfl rfl ?_
   iterate 3 refine Xe rfl rfl rfl rfl rfl ?_
   refine wpo_pickf (v := .bool false) rfl rfl rfl rfl ?_
   refine wpo_move (v := .bool false) rfl rfl ?_
   iterate 3 refine Xe rfl rfl rfl rfl rfl ?_
   refine wpo_pickf (v := .bool false) rfl rfl rfl rfl ?_
   refine wpo_assign (v := .bool false) rfl rfl ?_
   exact wpo_nil ⟨(congrArg Value.bool (by first | (simp only [h105, b0, b1, b2, b3, b4, b5, b6, b7, b8, b9]; done) | simp [h105])), rfl⟩
 ·
  rintro f114 w115 ⟨e116, rfl⟩
  refine Xj ?_
  refine ⟨.bool ((((decide (0 ≤ l.s)) && (decide (l.s ≤ 3))) && (decide (0 ≤ l.v))) && (decide (l.v ≤ 3))), res1 rfl e116, ?_, hb104⟩
  simp [labelOk, inR, Bool.and_assoc]
theorem Gl [Comp] (l : Lab) (hl : labelOk l = true) (w : World) : CallsR Try.prog 48 #[.agg #[.int .i64 l.s, .int .i64 l.v]] w (fun v w' => v = .tuple #[.int .u64 l.s, .int .u64 l.v] ∧ w.grownBy w' none) := by
 refine Xp (n := 10) Try.func48 rfl Try.ntmps48 rfl ?_
 have hb0 := World.grownBy.refl w none
 obtain ⟨⟨hl1, hl2⟩, hl3, hl4⟩ := (Ki l).1 hl
 refine Xa ?_
 refine wpo_box (v := .agg #[.int .i64 l.s, .int .i64 l.v]) (cs := #[.int .i64 l.s, .int .i64 l.v]) rfl rfl rfl ?_
 intro B101 w102 hN103
 have hlB101 := X1 hN103 hb0
 have hb104 := low0 hb0 hN103.grw
 refine wpo_assign (v := .int .u64 0) rfl rfl ?_
 refine wpo_assign (v := .int .u64 0) rfl rfl ?_
 refine wpo_nil ?_
 refine Xi ?_
 refine Qh (m := 7) (vals := [(4, .pointer (some ⟨B101, 0, none⟩)), (5, .int .i64 l.s), (6, .int .u64 l.s), (7, .pointer (some ⟨B101, 1, none⟩)), (8, .int .i64 l.v), (9, .int .u64 l.v), (2, .int .u64 l.s)]) (fun w' => w102.grownBy w' none) Qq (by kernel_rfl) (X5 _) ?_ ?_
 ·
  refine Xd rfl (fun w105 hi106 => ?_) ?_
  ·
   have hb107 := low0 hb104 hi106
   refine wpo_fieldAddr (o' := 0) Vm rfl rfl rfl ?_
   exact wpo_nil ⟨rfl, hi106⟩
  refine Xd rfl (fun w108 hi109 => ?_) ?_
  ·
   have hb110 := low0 hb104 hi109
   have k111 := (hN103.blk.grown0 hi109)
   refine wpo_load1 (v := .int .i64 l.s) X0 rfl (k111.cell rfl) rfl ?_
   exact wpo_nil ⟨rfl, hi109⟩
  refine Xd rfl (fun w112 hi113 => ?_) ?_
  ·
   have hb114 := low0 hb104 hi113
   refine wpo_conv (P := Try.prog) (k' := .u64) rfl (by kernel_rfl) (by kernel_rfl) (N3 (by omega) (by omega)) rfl ?_
   exact wpo_nil ⟨rfl, hi113⟩
  refine Xd rfl (fun w115 hi116 => ?_) ?_
  ·
   have hb117 := low0 hb104 hi116
   refine wpo_fieldAddr (o' := 1) Uj rfl rfl rfl ?_
   exact wpo_nil ⟨rfl, hi116⟩
  refine Xd rfl (fun w118 hi119 => ?_) ?_
  ·
   have hb120 := low0 hb104 hi119
   have k121 := (hN103.blk.grown0 hi119)
   refine wpo_load1 (v := .int .i64 l.v) X0 rfl (k121.cell rfl) rfl ?_
   exact wpo_nil ⟨rfl, hi119⟩
  refine Xd rfl (fun w122 hi123 => ?_) ?_
  ·
   have hb124 := low0 hb104 hi123
   refine wpo_conv (P := Try.prog) (k' := .u64) rfl (by kernel_rfl) (by kernel_rfl) (N3 (by omega) (by omega)) rfl ?_
   exact wpo_nil ⟨rfl, hi123⟩
  refine Xd rfl (fun w125 hi126 => ?_) ?_
  ·
   have hb127 := low0 hb104 hi126
   refine wpo_assign (v := .int .u64 l.s) rfl rfl ?_
   exact wpo_nil ⟨rfl, hi126⟩
  exact Q0
 ·
  intro w128 hi129
  have hb130 := low0 hb104 hi129
  refine wpo_assign (v := .int .u64 l.v) rfl rfl ?_
  refine wpo_nil ?_
  refine Xn ?_
  refine Xj ?_
  refine ⟨.tuple #[.int .u64 l.s, .int .u64 l.v], res2 rfl rfl rfl, ?_, hb130⟩
  rfl
theorem Rh [Comp] (a b : Int) (w : World) : CallsR Try.prog 49 #[.int .u64 a, .int .u64 b] w (fun v w' => v = .bool (decide (bits .andNot .u64 a b = 0)) ∧ w.grownBy w' none) := by
 refine Xp (n := 9) Try.func49 rfl Try.ntmps49 rfl ?_
 have hb0 := World.grownBy.refl w none
 refine Xa ?_
 refine wpo_assign (v := .bool false) rfl rfl ?_
 refine wpo_nil ?_
 refine Xa ?_
 refine wpo_move (v := .int .u64 a) rfl rfl ?_
 refine wpo_move (v := .int .u64 b) rfl rfl ?_
 refine wpo_bin (u := .int .u64 a) (u' := .int .u64 b) (v := .int .u64 (bits .andNot .u64 a b)) rfl rfl rfl rfl (fun _ => by rw [binOp_andNot, intBits_andNot]; rfl) (fun _ _ => eqGuard_at_int ..) rfl ?_
 refine wpo_eql (q := decide (bits .andNot .u64 a b = 0)) rfl rfl rfl rfl ?_
 refine wpo_assign (v := .bool (decide (bits .andNot .u64 a b = 0))) rfl rfl ?_
 refine wpo_nil ?_
 refine Xj ?_
 refine ⟨.bool (decide (bits .andNot .u64 a b = 0)), res1 rfl rfl, ?_, hb0⟩
 rfl
theorem Gi [Comp] (a b : Lab) (w : World) : CallsR Try.prog 18 #[.agg #[.int .i64 a.s, .int .i64 a.v], .agg #[.int .i64 b.s, .int .i64 b.v]] w (fun v w' => v = .bool (labelFlow a b) ∧ w.grownBy w' none) := by
 refine Xp (n := 35) Try.func18 rfl Try.ntmps18 rfl ?_
 have hb0 := World.grownBy.refl w none
 refine Xa ?_
 refine wpo_box (v := .agg #[.int .i64 a.s, .int .i64 a.v]) (cs := #[.int .i64 a.s, .int .i64 a.v]) rfl rfl rfl ?_
 intro B101 w102 hN103
 have hlB101 := X1 hN103 hb0
 have hb104 := low0 hb0 hN103.grw
 refine wpo_box (v := .agg #[.int .i64 b.s, .int .i64 b.v]) (cs := #[.int .i64 b.s, .int .i64 b.v]) rfl rfl rfl ?_
 intro B105 w106 hN107
 have hlB105 := X1 hN107 hb104
 have lt_B101_B105 := Xo hN107 (hN103.blk).lt
 have hb108 := low0 hb104 hN107.grw
 refine wpo_assign (v := .bool false) rfl rfl ?_
 refine wpo_nil ?_
 refine Xi ?_
 refine Xs (fun f' w' => (f' 2 = .pointer (some ⟨B101, 0, none⟩) ∧ f' 3 = .pointer (some ⟨B105, 0, none⟩) ∧ f' 4 = .bool false ∧ f' 16 = .bool ((!labelOk a) || (!labelOk b))) ∧ w106.grownBy w' none) ?_ ?_
 ·
  have k121 := (hN103.blk.grown0 hN107.grw)
  refine wpo_loadn (vs := [.int .i64 a.s, .int .i64 a.v]) Yr rfl rfl (k121.rangeL 0 2 rfl) rfl ?_
  refine Xh (vs := [.agg #[.int .i64 a.s, .int .i64 a.v]]) Hf (Xb rfl Xg) rfl (J1 a _) ?_
  rintro _ w122 ⟨rfl, hg123⟩
  have hb124 := low0 hb108 hg123
  refine wpo_not (b' := !labelOk a) rfl rfl rfl ?_
  refine wpo_move (v := .bool (!labelOk a)) rfl rfl ?_
  rcases Xy (!labelOk a) with h125 | h125
  ·
   have h126 := Q3 h125
   iterate 3 refine Xe rfl rfl rfl h125 rfl ?_
   refine wpo_pickt (v := .bool true) rfl h125 rfl rfl ?_
   exact wpo_nil ⟨⟨rfl, rfl, rfl, (congrArg Value.bool (by first | (simp only [h125, h126, b0, b1, b2, b3, b4, b5, b6, b7, b8, b9]; done) | simp [h125, h126]))⟩, hg123⟩
  ·
   have h127 := Y9 h125
   refine Xc rfl rfl rfl h125 ?_
   have k128 := (hN107.blk.grown0 hg123)
   refine wpo_loadn (vs := [.int .i64 b.s, .int .i64 b.v]) Yr rfl rfl (k128.rangeL 0 2 rfl) rfl ?_
   refine Xc rfl rfl rfl h125 ?_
   refine Xh (vs := [.agg #[.int .i64 b.s, .int .i64 b.v]]) Hf (Xb rfl Xg) rfl (J1 b _) ?_
   rintro _ w129 ⟨rfl, hg130⟩
   have hb131 := low0 hb124 hg130
   refine Xc rfl rfl rfl h125 ?_
   refine wpo_not (b' := !labelOk b) rfl rfl rfl ?_
   refine wpo_pickf (v := .bool (!labelOk b)) rfl h125 rfl rfl ?_
   exact wpo_nil ⟨⟨rfl, rfl, rfl, (congrArg Value.bool (by first | (simp only [h125, h127, b0, b1, b2, b3, b4, b5, b6, b7, b8, b9]; done) | simp [h125, h127]))⟩, (Xf hg123 hg130)⟩
 ·
  rintro f132 w133 ⟨⟨e134, e135, e136, e137⟩, hg138⟩
  have hb139 := low0 hb108 hg138
  refine Xq e137 (fun h140 => ?_) (fun h140 => ?_)
  ·
   refine Xa ?_
   refine wpo_assign (v := .bool false) rfl rfl ?_
   refine wpo_nil ?_
   refine Xj ?_
   refine X7 ?_
   refine ⟨.bool false, res1 rfl rfl, ?_, hb139⟩
   exact congrArg Value.bool (L1 h140).symm
  ·
   have h141 := J5 h140
   have h142 := Y9 h141
   have h143 := J6 h140
   have h144 := Y9 h143
   refine Xk ?_
   refine Xn ?_
   refine Xa ?_
   have k145 := ((hN103.blk.grown0 hN107.grw).grown0 hg138)
   refine wpo_loadn (vs := [.int .i64 a.s, .int .i64 a.v]) Yr e134 rfl (k145.rangeL 0 2 rfl) rfl ?_
   refine Xh (vs := [.agg #[.int .i64 a.s, .int .i64 a.v]]) Ep (Xb rfl Xg) rfl (Gl a h142 _) ?_
   rintro _ w146 ⟨rfl, hg147⟩
   have hb148 := low0 hb139 hg147
   refine wpo_move (v := .tuple #[.int .u64 a.s, .int .u64 a.v]) rfl rfl ?_
   refine wpo_extract (v := .int .u64 a.s) rfl rfl rfl ?_
   refine wpo_extract (v := .int .u64 a.v) rfl rfl rfl ?_
   refine wpo_assign (v := .int .u64 a.s) rfl rfl ?_
   refine wpo_assign (v := .int .u64 a.v) rfl rfl ?_
   refine wpo_nil ?_
   refine Xa ?_
   have k149 := ((hN107.blk.grown0 hg138).grown0 hg147)
   refine wpo_loadn (vs := [.int .i64 b.s, .int .i64 b.v]) Yr e135 rfl (k149.rangeL 0 2 rfl) rfl ?_
   refine Xh (vs := [.agg #[.int .i64 b.s, .int .i64 b.v]]) Ep (Xb rfl Xg) rfl (Gl b h144 _) ?_
   rintro _ w150 ⟨rfl, hg151⟩
   have hb152 := low0 hb148 hg151
   refine wpo_move (v := .tuple #[.int .u64 b.s, .int .u64 b.v]) rfl rfl ?_
   refine wpo_extract (v := .int .u64 b.s) rfl rfl rfl ?_
   refine wpo_extract (v := .int .u64 b.v) rfl rfl rfl ?_
   refine wpo_assign (v := .int .u64 b.s) rfl rfl ?_
   refine wpo_assign (v := .int .u64 b.v) rfl rfl ?_
   refine wpo_nil ?_
   refine Xs (fun f' w' => (f' 4 = .bool ((decide (bits .andNot .u64 a.s b.s = 0)) && (decide (bits .andNot .u64 b.v a.v = 0)))) ∧ w150.grownBy w' none) ?_ ?_
   ·
    refine wpo_move (v := .int .u64 a.s) rfl rfl ?_
    refine wpo_move (v := .int .u64 b.s) rfl rfl ?_
    refine Xh (vs := [.int .u64 a.s, .int .u64 b.s]) Er (Xb rfl (Xb rfl Xg)) rfl (Rh a.s b.s _) ?_
    rintro _ w162 ⟨rfl, hg163⟩
    have hb164 := low0 hb152 hg163
    refine wpo_move (v := .bool (decide (bits .andNot .u64 a.s b.s = 0))) rfl rfl ?_
    rcases Xy (decide (bits .andNot .u64 a.s b.s = 0)) with h165 | h165
    ·
     have h166 := of_decide_eq_true h165
     refine Xc rfl rfl rfl h165 ?_
     refine wpo_move (v := .int .u64 b.v) rfl rfl ?_
     refine Xc rfl rfl rfl h165 ?_
     refine wpo_move (v := .int .u64 a.v) rfl rfl ?_
     refine Xc rfl rfl rfl h165 ?_
     refine Xh (vs := [.int .u64 b.v, .int .u64 a.v]) Er (Xb rfl (Xb rfl Xg)) rfl (Rh b.v a.v _) ?_
     rintro _ w167 ⟨rfl, hg168⟩
     have hb169 := low0 hb164 hg168
     refine wpo_pickt (v := .bool (decide (bits .andNot .u64 b.v a.v = 0))) rfl h165 rfl rfl ?_
     refine wpo_assign (v := .bool (decide (bits .andNot .u64 b.v a.v = 0))) rfl rfl ?_
     exact wpo_nil ⟨(congrArg Value.bool (by first | (simp only [h140, h141, h142, h143, h144, h165, b0, b1, b2, b3, b4, b5, b6, b7, b8, b9]; done) | simp [h140, h141, h142, h143, h144, h165])), (Xf hg163 hg168)⟩
    ·
     have h170 := of_decide_eq_false h165
     iterate 3 refine Xe rfl rfl rfl h165 rfl ?_
     refine wpo_pickf (v := .bool false) rfl h165 rfl rfl ?_
     refine wpo_assign (v := .bool false) rfl rfl ?_
     exact wpo_nil ⟨(congrArg Value.bool (by first | (simp only [h140, h141, h142, h143, h144, h165, b0, b1, b2, b3, b4, b5, b6, b7, b8, b9]; done) | simp [h140, h141, h142, h143, h144, h165])), hg163⟩
   ·
    rintro f171 w172 ⟨e173, hg174⟩
    have hb175 := low0 hb152 hg174
    refine Xj ?_
    refine ⟨.bool ((decide (bits .andNot .u64 a.s b.s = 0)) && (decide (bits .andNot .u64 b.v a.v = 0))), res1 rfl e173, ?_, hb175⟩
    exact congrArg Value.bool (H2 h142 h144)
theorem Te [Comp] (r : Rt) (w : World) : CallsR Try.prog 97 #[.agg #[.int .i64 r.th, .int .i64 r.ve, .bool r.rd, .bool r.wr, .bool r.wk]] w (fun v w' => v = .bool (rightOk r) ∧ w.grownBy w' none) := by
 refine Xp (n := 33) Try.func97 rfl Try.ntmps97 rfl ?_
 have hb0 := World.grownBy.refl w none
 refine Xa ?_
 refine wpo_box (v := .agg #[.int .i64 r.th, .int .i64 r.ve, .bool r.rd, .bool r.wr, .bool r.wk]) (cs := #[.int .i64 r.th, .int .i64 r.ve, .bool r.rd, .bool r.wr, .bool r.wk]) rfl rfl rfl ?_
 intro B101 w102 hN103
 have hlB101 := X1 hN103 hb0
 have hb104 := low0 hb0 hN103.grw
 refine wpo_assign (v := .bool false) rfl rfl ?_
 refine wpo_nil ?_
 refine Xi ?_
 refine Xa ?_
 refine wpo_loadn (vs := [.int .i64 r.th, .int .i64 r.ve, .bool r.rd, .bool r.wr, .bool r.wk]) Y1 rfl rfl (hN103.blk.rangeL 0 5 rfl) rfl ?_
 refine wpo_build (ps := []) (v := .agg #[.int .i64 0, .int .i64 0, .bool false, .bool false, .bool false]) Xw (fun _ => by kernel_rfl) rfl ?_
 refine wpo_eqs (q := decide (r = Rt.zero)) rfl rfl rfl rfl (fun _ => M7 _ _ r Rt.zero _) (fun _ => Rv r Rt.zero _) rfl rfl ?_
 refine wpo_nil ?_
 refine Xq rfl (fun h105 => ?_) (fun h105 => ?_)
 ·
  have h106 := of_decide_eq_true h105
  refine Xa ?_
  refine wpo_assign (v := .bool true) rfl rfl ?_
  refine wpo_nil ?_
  refine Xj ?_
  refine X7 ?_
  refine ⟨.bool true, res1 rfl rfl, ?_, hb104⟩
  simp [rightOk, inR, Bool.and_assoc, h105]
 ·
  have h107 := of_decide_eq_false h105
  refine Xk ?_
  refine Xn ?_
  refine Xs (fun f' w' => (f' 2 = .bool (((((decide (1 ≤ r.th)) && (decide (r.th ≤ 8))) && (decide (0 ≤ r.ve))) && (decide (r.ve ≤ 5))) && (!(r.wk && r.wr)))) ∧ w102 = w') ?_ ?_
  ·
   refine wpo_fieldAddr (o' := 0) Qx rfl rfl rfl ?_
   refine wpo_load1 (v := .int .i64 r.th) X0 rfl (hN103.blk.cell rfl) rfl ?_
   refine wpo_geq (q := decide (1 ≤ r.th)) rfl rfl rfl rfl ?_
   refine wpo_move (v := .bool (decide (1 ≤ r.th))) rfl rfl ?_
   rcases Xy (decide (1 ≤ r.th)) with h108 | h108
   ·
    have h109 := of_decide_eq_true h108
    refine Xc rfl rfl rfl h108 ?_
    refine wpo_fieldAddr (o' := 0) Qx rfl rfl rfl ?_
    refine Xc rfl rfl rfl h108 ?_
    refine wpo_load1 (v := .int .i64 r.th) X0 rfl (hN103.blk.cell rfl) rfl ?_
    refine Xc rfl rfl rfl h108 ?_
    refine wpo_leq (q := decide (r.th ≤ 8)) rfl rfl rfl rfl ?_
    refine wpo_pickt (v := .bool (decide (r.th ≤ 8))) rfl h108 rfl rfl ?_
    refine wpo_move (v := .bool (decide (r.th ≤ 8))) rfl rfl ?_
    rcases Xy (decide (r.th ≤ 8)) with h110 | h110
    ·
     have h111 := of_decide_eq_true h110
     refine Xc rfl rfl rfl h110 ?_
     refine wpo_fieldAddr (o' := 1) J8 rfl rfl rfl ?_
     refine Xc rfl rfl rfl h110 ?_
     refine wpo_load1 (v := .int .i64 r.ve) X0 rfl (hN103.blk.cell rfl) rfl ?_
     refine Xc rfl rfl rfl h110 ?_
     refine wpo_geq (q := decide (0 ≤ r.ve)) rfl rfl rfl rfl ?_
     refine wpo_pickt (v := .bool (decide (0 ≤ r.ve))) rfl h110 rfl rfl ?_
     refine wpo_move (v := .bool (decide (0 ≤ r.ve))) rfl rfl ?_
     rcases Xy (decide (0 ≤ r.ve)) with h112 | h112
     ·
      have h113 := of_decide_eq_true h112
      refine Xc rfl rfl rfl h112 ?_
      refine wpo_fieldAddr (o' := 1) J8 rfl rfl rfl ?_
      refine Xc rfl rfl rfl h112 ?_
      refine wpo_load1 (v := .int .i64 r.ve) X0 rfl (hN103.blk.cell rfl) rfl ?_
      refine Xc rfl rfl rfl h112 ?_
      refine wpo_leq (q := decide (r.ve ≤ 5)) rfl rfl rfl rfl ?_
      refine wpo_pickt (v := .bool (decide (r.ve ≤ 5))) rfl h112 rfl rfl ?_
      refine wpo_move (v := .bool (decide (r.ve ≤ 5))) rfl rfl ?_
      rcases Xy (decide (r.ve ≤ 5)) with h114 | h114
      ·
       have h115 := of_decide_eq_true h114
       refine Xc rfl rfl rfl h114 ?_
       refine wpo_fieldAddr (o' := 4) Wh rfl rfl rfl ?_
       refine Xc rfl rfl rfl h114 ?_
       refine wpo_load1 (v := .bool r.wk) Vx rfl (hN103.blk.cell rfl) rfl ?_
       refine Xc rfl rfl rfl h114 ?_
       refine wpo_move (v := .bool r.wk) rfl rfl ?_
       rcases Xy (r.wk) with h116 | h116
       ·
        refine Xc rfl rfl rfl h116 ?_
        refine wpo_fieldAddr (o' := 3) Lx rfl rfl rfl ?_
        refine Xc rfl rfl rfl h116 ?_
        refine wpo_load1 (v := .bool r.wr) Vx rfl (hN103.blk.cell rfl) rfl ?_
        refine Xc rfl rfl rfl h114 ?_
        refine wpo_pickt (v := .bool r.wr) rfl h116 rfl rfl ?_
        refine Xc rfl rfl rfl h114 ?_
        refine wpo_not (b' := !r.wr) rfl rfl rfl ?_
        refine wpo_pickt (v := .bool (!r.wr)) rfl h114 rfl rfl ?_
        refine wpo_assign (v := .bool (!r.wr)) rfl rfl ?_
        exact wpo_nil ⟨(congrArg Value.bool (by first | (simp only [h105, h108, h110, h112, h114, h116, b0, b1, b2, b3, b4, b5, b6, b7, b8, b9]; done) | simp [h105, h108, h110, h112, h114, h116])), rfl⟩
       ·
        refine Xe rfl rfl rfl h116 rfl ?_
        refine Xe rfl rfl rfl h116 rfl ?_
        refine Xc rfl rfl rfl h114 ?_
        refine wpo_pickf (v := .bool false) rfl h116 rfl rfl ?_
        refine Xc rfl rfl rfl h114 ?_
        refine wpo_not (b' := true) rfl rfl rfl ?_
        refine wpo_pickt (v := .bool true) rfl h114 rfl rfl ?_
        refine wpo_assign (v := .bool true) rfl rfl ?_
        exact wpo_nil ⟨(congrArg Value.bool (by first | (simp only [h105, h108, h110, h112, h114, h116, b0, b1, b2, b3, b4, b5, b6, b7, b8, b9]; done) | simp [h105, h108, h110, h112, h114, h116])), rfl⟩
      ·
       have h117 := of_decide_eq_false h114
       iterate 3 refine Xe rfl rfl rfl h114 rfl ?_
       refine X4 rfl rfl rfl rfl ?_
       refine X4 rfl rfl rfl rfl ?_
       refine Xe rfl rfl rfl h114 rfl ?_
       refine Xe rfl rfl rfl h114 rfl ?_
       refine wpo_pickf (v := .bool false) rfl h114 rfl rfl ?_
       refine wpo_assign (v := .bool false) rfl rfl ?_
       exact wpo_nil ⟨(congrArg Value.bool (by first | (simp only [h105, h108, h110, h112, h114, b0, b1, b2, b3, b4, b5, b6, b7, b8, b9]; done) | simp [h105, h108, h110, h112, h114])), rfl⟩
     ·
      have h118 := of_decide_eq_false h112
      iterate 3 refine Xe rfl rfl rfl h112 rfl ?_
      refine wpo_pickf (v := .bool false) rfl h112 rfl rfl ?_
      refine wpo_move (v := .bool false) rfl rfl ?_
      iterate 3 refine Xe rfl rfl rfl rfl rfl ?_
      refine X4 rfl rfl rfl rfl ?_
      refine X4 rfl rfl rfl rfl ?_
      refine Xe rfl rfl rfl rfl rfl ?_
      refine Xe rfl rfl rfl rfl rfl ?_
      refine wpo_pickf (v := .bool false) rfl rfl rfl rfl ?_
      refine wpo_assign (v := .bool false) rfl rfl ?_
      exact wpo_nil ⟨(congrArg Value.bool (by first | (simp only [h105, h108, h110, h112, b0, b1, b2, b3, b4, b5, b6, b7, b8, b9]; done) | simp [h105, h108, h110, h112])), rfl⟩
    ·
     have h119 := of_decide_eq_false h110
     iterate 3 refine Xe rfl rfl rfl h110 rfl ?_
     refine wpo_pickf (v := .bool false) rfl h110 rfl rfl ?_
     refine wpo_move (v := .bool false) rfl rfl ?_
     iterate 3 refine Xe rfl rfl rfl rfl rfl ?_
     refine wpo_pickf (v := .bool false) rfl rfl rfl rfl ?_
     refine wpo_move (v := .bool false) rfl rfl ?_
     iterate 3 refine Xe rfl rfl rfl rfl rfl ?_
     refine X4 rfl rfl rfl rfl ?_
     refine X4 rfl rfl rfl rfl ?_
     refine Xe rfl rfl rfl rfl rfl ?_
     refine Xe rfl rfl rfl rfl rfl ?_
     refine wpo_pickf (v := .bool false) rfl rfl rfl rfl ?_
     refine wpo_assign (v := .bool false) rfl rfl ?_
     exact wpo_nil ⟨(congrArg Value.bool (by first | (simp only [h105, h108, h110, b0, b1, b2, b3, b4, b5, b6, b7, b8, b9]; done) | simp [h105, h108, h110])), rfl⟩
   ·
    have h120 := of_decide_eq_false h108
    iterate 3 refine Xe rfl rfl rfl h108 rfl ?_
    refine wpo_pickf (v := .bool false) rfl h108 rfl rfl ?_
    refine wpo_move (v := .bool false) rfl rfl ?_
    iterate 3 refine Xe rfl rfl rfl rfl rfl ?_
    refine wpo_pickf (v := .bool false) rfl rfl rfl rfl ?_
    refine wpo_move (v := .bool false) rfl rfl ?_
    iterate 3 refine Xe rfl rfl rfl rfl rfl ?_
    refine wpo_pickf (v := .bool false) rfl rfl rfl rfl ?_
    refine wpo_move (v := .bool false) rfl rfl ?_
    iterate 3 refine Xe rfl rfl rfl rfl rfl ?_
    refine X4 rfl rfl rfl rfl ?_
    refine X4 rfl rfl rfl rfl ?_
    refine Xe rfl rfl rfl rfl rfl ?_
    refine Xe rfl rfl rfl rfl rfl ?_
    refine wpo_pickf (v := .bool false) rfl rfl rfl rfl ?_
    refine wpo_assign (v := .bool false) rfl rfl ?_
    exact wpo_nil ⟨(congrArg Value.bool (by first | (simp only [h105, h108, b0, b1, b2, b3, b4, b5, b6, b7, b8, b9]; done) | simp [h105, h108])), rfl⟩
  ·
   rintro f121 w122 ⟨e123, rfl⟩
   refine Xj ?_
   refine ⟨.bool (((((decide (1 ≤ r.th)) && (decide (r.th ≤ 8))) && (decide (0 ≤ r.ve))) && (decide (r.ve ≤ 5))) && (!(r.wk && r.wr))), res1 rfl e123, ?_, hb104⟩
   simp [rightOk, inR, Bool.and_assoc, h105]
end Go.Dw.J
end
section
namespace Go.Dw.J
open Go.RowKit Go.Dw Go.Proofs
set_option linter.unusedSectionVars false
set_option maxRecDepth 100000
set_option maxHeartbeats 4000000
set_option linter.unusedSimpArgs false
set_option linter.unusedVariables false
theorem Bh : goFn Try.prog 118 = true := by kernel_rfl
theorem El : goFn Try.prog 16 = true := by kernel_rfl
theorem V2 : goFn Try.prog 46 = true := by kernel_rfl
theorem Kz [Comp] (n lo hi : Int) (w : World) : CallsR Try.prog 46 #[.int .i64 n, .int .i64 lo, .int .i64 hi] w (fun v w' => v = .bool (inR n lo hi) ∧ w.grownBy w' none) := by
 refine Xp (n := 15) Try.func46 rfl Try.ntmps46 rfl ?_
 have hb0 := World.grownBy.refl w none
 refine Xa ?_
 refine wpo_assign (v := .bool false) rfl rfl ?_
 refine wpo_nil ?_
 refine Xs (fun f' w' => (f' 6 = .bool ((decide (lo ≤ n)) && (decide (n ≤ hi)))) ∧ w = w') ?_ ?_
 ·
  refine wpo_move (v := .int .i64 n) rfl rfl ?_
  refine wpo_move (v := .int .i64 lo) rfl rfl ?_
  refine wpo_geq (q := decide (lo ≤ n)) rfl rfl rfl rfl ?_
  refine wpo_move (v := .bool (decide (lo ≤ n))) rfl rfl ?_
  rcases Xy (decide (lo ≤ n)) with h101 | h101
  ·
   have h102 := of_decide_eq_true h101
   refine Xc rfl rfl rfl h101 ?_
   refine wpo_move (v := .int .i64 n) rfl rfl ?_
   refine Xc rfl rfl rfl h101 ?_
   refine wpo_move (v := .int .i64 hi) rfl rfl ?_
   refine Xc rfl rfl rfl h101 ?_
   refine wpo_leq (q := decide (n ≤ hi)) rfl rfl rfl rfl ?_
   refine wpo_pickt (v := .bool (decide (n ≤ hi))) rfl h101 rfl rfl ?_
   refine wpo_assign (v := .bool (decide (n ≤ hi))) rfl rfl ?_
   exact wpo_nil ⟨(congrArg Value.bool (by first | (simp only [h101, b0, b1, b2, b3, b4, b5, b6, b7, b8, b9]; done) | simp [h101])), rfl⟩
  ·
   have h103 := of_decide_eq_false h101
   iterate 3 refine Xe rfl rfl rfl h101 rfl ?_
   refine wpo_pickf (v := .bool false) rfl h101 rfl rfl ?_
   refine wpo_assign (v := .bool false) rfl rfl ?_
   exact wpo_nil ⟨(congrArg Value.bool (by first | (simp only [h101, b0, b1, b2, b3, b4, b5, b6, b7, b8, b9]; done) | simp [h101])), rfl⟩
 ·
  rintro f104 w105 ⟨e106, rfl⟩
  refine Xj ?_
  refine ⟨.bool ((decide (lo ≤ n)) && (decide (n ≤ hi))), res1 rfl e106, ?_, hb0⟩
  rfl
theorem Jh [Comp] (n lo hi : Int) (w : World) : CallsR Try.prog 50 #[.int .i64 n, .int .i64 lo, .int .i64 hi] w (fun v w' => v = .bool (inR n lo hi) ∧ w.grownBy w' none) := by
 refine Xp (n := 15) Try.func50 rfl Try.ntmps50 rfl ?_
 have hb0 := World.grownBy.refl w none
 refine Xa ?_
 refine wpo_assign (v := .bool false) rfl rfl ?_
 refine wpo_nil ?_
 refine Xs (fun f' w' => (f' 6 = .bool ((decide (lo ≤ n)) && (decide (n ≤ hi)))) ∧ w = w') ?_ ?_
 ·
  refine wpo_move (v := .int .i64 lo) rfl rfl ?_
  refine wpo_move (v := .int .i64 n) rfl rfl ?_
  refine wpo_leq (q := decide (lo ≤ n)) rfl rfl rfl rfl ?_
  refine wpo_move (v := .bool (decide (lo ≤ n))) rfl rfl ?_
  rcases Xy (decide (lo ≤ n)) with h101 | h101
  ·
   have h102 := of_decide_eq_true h101
   refine Xc rfl rfl rfl h101 ?_
   refine wpo_move (v := .int .i64 n) rfl rfl ?_
   refine Xc rfl rfl rfl h101 ?_
   refine wpo_move (v := .int .i64 hi) rfl rfl ?_
   refine Xc rfl rfl rfl h101 ?_
   refine wpo_leq (q := decide (n ≤ hi)) rfl rfl rfl rfl ?_
   refine wpo_pickt (v := .bool (decide (n ≤ hi))) rfl h101 rfl rfl ?_
   refine wpo_assign (v := .bool (decide (n ≤ hi))) rfl rfl ?_
   exact wpo_nil ⟨(congrArg Value.bool (by first | (simp only [h101, b0, b1, b2, b3, b4, b5, b6, b7, b8, b9]; done) | simp [h101])), rfl⟩
  ·
   have h103 := of_decide_eq_false h101
   iterate 3 refine Xe rfl rfl rfl h101 rfl ?_
   refine wpo_pickf (v := .bool false) rfl h101 rfl rfl ?_
   refine wpo_assign (v := .bool false) rfl rfl ?_
   exact wpo_nil ⟨(congrArg Value.bool (by first | (simp only [h101, b0, b1, b2, b3, b4, b5, b6, b7, b8, b9]; done) | simp [h101])), rfl⟩
 ·
  rintro f104 w105 ⟨e106, rfl⟩
  refine Xj ?_
  refine ⟨.bool ((decide (lo ≤ n)) && (decide (n ≤ hi))), res1 rfl e106, ?_, hb0⟩
  rfl
theorem U5 [Comp] (l : Lab) (w : World) : CallsR Try.prog 16 #[.agg #[.int .i64 l.s, .int .i64 l.v]] w (fun v w' => v = .bool (labelOk l) ∧ w.grownBy w' none) := by
 refine Xp (n := 11) Try.func16 rfl Try.ntmps16 rfl ?_
 have hb0 := World.grownBy.refl w none
 refine Xa ?_
 refine wpo_box (v := .agg #[.int .i64 l.s, .int .i64 l.v]) (cs := #[.int .i64 l.s, .int .i64 l.v]) rfl rfl rfl ?_
 intro B101 w102 hN103
 have hlB101 := X1 hN103 hb0
 have hb104 := low0 hb0 hN103.grw
 refine wpo_assign (v := .bool false) rfl rfl ?_
 refine wpo_nil ?_
 refine Xs (fun f' w' => (f' 2 = .bool (inR l.s 0 3 && inR l.v 0 3)) ∧ w102.grownBy w' none) ?_ ?_
 ·
  refine wpo_fieldAddr (o' := 0) Vm rfl rfl rfl ?_
  refine wpo_load1 (v := .int .i64 l.s) X0 rfl (hN103.blk.cell rfl) rfl ?_
  refine Xh (vs := [.int .i64 l.s, .int .i64 0, .int .i64 3]) V2 (Xb rfl (Xb rfl (Xb rfl Xg))) rfl (Kz l.s 0 3 _) ?_
  rintro _ w115 ⟨rfl, hg116⟩
  have hb117 := low0 hb104 hg116
  refine wpo_move (v := .bool (inR l.s 0 3)) rfl rfl ?_
  rcases Xy (inR l.s 0 3) with h118 | h118
  ·
   refine Xc rfl rfl rfl h118 ?_
   refine wpo_fieldAddr (o' := 1) Uj rfl rfl rfl ?_
   refine Xc rfl rfl rfl h118 ?_
   have k119 := (hN103.blk.grown0 hg116)
   refine wpo_load1 (v := .int .i64 l.v) X0 rfl (k119.cell rfl) rfl ?_
   refine Xc rfl rfl rfl h118 ?_
   refine Xh (vs := [.int .i64 l.v, .int .i64 0, .int .i64 3]) V2 (Xb rfl (Xb rfl (Xb rfl Xg))) rfl (Kz l.v 0 3 _) ?_
   rintro _ w120 ⟨rfl, hg121⟩
   have hb122 := low0 hb117 hg121
   refine wpo_pickt (v := .bool (inR l.v 0 3)) rfl h118 rfl rfl ?_
   refine wpo_assign (v := .bool (inR l.v 0 3)) rfl rfl ?_
   exact wpo_nil ⟨(congrArg Value.bool (by first | (simp only [h118, b0, b1, b2, b3, b4, b5, b6, b7, b8, b9]; done) | simp [h118])), (Xf hg116 hg121)⟩
  ·
   iterate 3 refine Xe rfl rfl rfl h118 rfl ?_
   refine wpo_pickf (v := .bool false) rfl h118 rfl rfl ?_
   refine wpo_assign (v := .bool false) rfl rfl ?_
   exact wpo_nil ⟨(congrArg Value.bool (by first | (simp only [h118, b0, b1, b2, b3, b4, b5, b6, b7, b8, b9]; done) | simp [h118])), hg116⟩
 ·
  rintro f123 w124 ⟨e125, hg126⟩
  have hb127 := low0 hb104 hg126
  refine Xj ?_
  refine ⟨.bool (inR l.s 0 3 && inR l.v 0 3), res1 rfl e125, ?_, hb127⟩
  rfl
theorem Bu [Comp] (a b : Int) (ha : 0 ≤ a ∧ a ≤ 3) (hb : 0 ≤ b ∧ b ≤ 3) (w : World) : CallsR Try.prog 118 #[.int .i64 a, .int .i64 b] w (fun v w' => v = .bool (l1In a b) ∧ w.grownBy w' none) := by
 refine Xp (n := 17) Try.func118 rfl Try.ntmps118 rfl ?_
 have hb0 := World.grownBy.refl w none
 refine Xa ?_
 refine wpo_assign (v := .bool false) rfl rfl ?_
 refine wpo_nil ?_
 refine Xs (fun f' w' => (f' 4 = .bool ((decide (a % 2 ≤ b % 2)) && (decide (a / 2 ≤ b / 2)))) ∧ w = w') ?_ ?_
 ·
  refine wpo_move (v := .int .i64 a) rfl rfl ?_
  refine wpo_rem (c := a % 2) rfl rfl (by omega) (by omega) (by omega) rfl rfl ?_
  refine wpo_move (v := .int .i64 b) rfl rfl ?_
  refine wpo_rem (c := b % 2) rfl rfl (by omega) (by omega) (by omega) rfl rfl ?_
  refine wpo_leq (q := decide (a % 2 ≤ b % 2)) rfl rfl rfl rfl ?_
  refine wpo_move (v := .bool (decide (a % 2 ≤ b % 2))) rfl rfl ?_
  rcases Xy (decide (a % 2 ≤ b % 2)) with h101 | h101
  ·
   have h102 := of_decide_eq_true h101
   refine Xc rfl rfl rfl h101 ?_
   refine wpo_move (v := .int .i64 a) rfl rfl ?_
   refine Xc rfl rfl rfl h101 ?_
   refine wpo_quo (c := a / 2) rfl rfl (by omega) (by omega) (by omega) rfl rfl ?_
   refine Xc rfl rfl rfl h101 ?_
   refine wpo_move (v := .int .i64 b) rfl rfl ?_
   refine Xc rfl rfl rfl h101 ?_
   refine wpo_quo (c := b / 2) rfl rfl (by omega) (by omega) (by omega) rfl rfl ?_
   refine Xc rfl rfl rfl h101 ?_
   refine wpo_leq (q := decide (a / 2 ≤ b / 2)) rfl rfl rfl rfl ?_
   refine wpo_pickt (v := .bool (decide (a / 2 ≤ b / 2))) rfl h101 rfl rfl ?_
   refine wpo_assign (v := .bool (decide (a / 2 ≤ b / 2))) rfl rfl ?_
   exact wpo_nil ⟨(congrArg Value.bool (by first | (simp only [h101, b0, b1, b2, b3, b4, b5, b6, b7, b8, b9]; done) | simp [h101])), rfl⟩
  ·
   have h103 := of_decide_eq_false h101
   iterate 5 refine Xe rfl rfl rfl h101 rfl ?_
   refine wpo_pickf (v := .bool false) rfl h101 rfl rfl ?_
   refine wpo_assign (v := .bool false) rfl rfl ?_
   exact wpo_nil ⟨(congrArg Value.bool (by first | (simp only [h101, b0, b1, b2, b3, b4, b5, b6, b7, b8, b9]; done) | simp [h101])), rfl⟩
 ·
  rintro f104 w105 ⟨e106, rfl⟩
  refine Xj ?_
  refine ⟨.bool ((decide (a % 2 ≤ b % 2)) && (decide (a / 2 ≤ b / 2))), res1 rfl e106, ?_, hb0⟩
  rfl
theorem Bs [Comp] (a b : Lab) (hla : labelOk a = true) (hlb : labelOk b = true) (w : World) : CallsR Try.prog 92 #[.agg #[.int .i64 a.s, .int .i64 a.v], .agg #[.int .i64 b.s, .int .i64 b.v]] w (fun v w' => v = .bool (flow a b) ∧ w.grownBy w' none) := by
 refine Xp (n := 17) Try.func92 rfl Try.ntmps92 rfl ?_
 have hb0 := World.grownBy.refl w none
 obtain ⟨⟨ha1, ha2⟩, ha3, ha4⟩ := (Ki a).1 hla
 obtain ⟨⟨hc1, hc2⟩, hc3, hc4⟩ := (Ki b).1 hlb
 refine Xa ?_
 refine wpo_box (v := .agg #[.int .i64 a.s, .int .i64 a.v]) (cs := #[.int .i64 a.s, .int .i64 a.v]) rfl rfl rfl ?_
 intro B101 w102 hN103
 have hlB101 := X1 hN103 hb0
 have hb104 := low0 hb0 hN103.grw
 refine wpo_box (v := .agg #[.int .i64 b.s, .int .i64 b.v]) (cs := #[.int .i64 b.s, .int .i64 b.v]) rfl rfl rfl ?_
 intro B105 w106 hN107
 have hlB105 := X1 hN107 hb104
 have lt_B101_B105 := Xo hN107 (hN103.blk).lt
 have hb108 := low0 hb104 hN107.grw
 refine wpo_assign (v := .bool false) rfl rfl ?_
 refine wpo_nil ?_
 refine Xs (fun f' w' => (f' 4 = .bool (l1In a.s b.s && l1In b.v a.v)) ∧ w106.grownBy w' none) ?_ ?_
 ·
  refine wpo_fieldAddr (o' := 0) Vm rfl rfl rfl ?_
  have k122 := (hN103.blk.grown0 hN107.grw)
  refine wpo_load1 (v := .int .i64 a.s) X0 rfl (k122.cell rfl) rfl ?_
  refine wpo_fieldAddr (o' := 0) Vm rfl rfl rfl ?_
  refine wpo_load1 (v := .int .i64 b.s) X0 rfl (hN107.blk.cell rfl) rfl ?_
  refine Xh (vs := [.int .i64 a.s, .int .i64 b.s]) Bh (Xb rfl (Xb rfl Xg)) rfl (Bu a.s b.s (by omega) (by omega) _) ?_
  rintro _ w123 ⟨rfl, hg124⟩
  have hb125 := low0 hb108 hg124
  refine wpo_move (v := .bool (l1In a.s b.s)) rfl rfl ?_
  rcases Xy (l1In a.s b.s) with h126 | h126
  ·
   refine Xc rfl rfl rfl h126 ?_
   refine wpo_fieldAddr (o' := 1) Uj rfl rfl rfl ?_
   refine Xc rfl rfl rfl h126 ?_
   have k127 := (hN107.blk.grown0 hg124)
   refine wpo_load1 (v := .int .i64 b.v) X0 rfl (k127.cell rfl) rfl ?_
   refine Xc rfl rfl rfl h126 ?_
   refine wpo_fieldAddr (o' := 1) Uj rfl rfl rfl ?_
   refine Xc rfl rfl rfl h126 ?_
   have k128 := (k122.grown0 hg124)
   refine wpo_load1 (v := .int .i64 a.v) X0 rfl (k128.cell rfl) rfl ?_
   refine Xc rfl rfl rfl h126 ?_
   refine Xh (vs := [.int .i64 b.v, .int .i64 a.v]) Bh (Xb rfl (Xb rfl Xg)) rfl (Bu b.v a.v (by omega) (by omega) _) ?_
   rintro _ w129 ⟨rfl, hg130⟩
   have hb131 := low0 hb125 hg130
   refine wpo_pickt (v := .bool (l1In b.v a.v)) rfl h126 rfl rfl ?_
   refine wpo_assign (v := .bool (l1In b.v a.v)) rfl rfl ?_
   exact wpo_nil ⟨(congrArg Value.bool (by first | (simp only [h126, b0, b1, b2, b3, b4, b5, b6, b7, b8, b9]; done) | simp [h126])), (Xf hg124 hg130)⟩
  ·
   iterate 5 refine Xe rfl rfl rfl h126 rfl ?_
   refine wpo_pickf (v := .bool false) rfl h126 rfl rfl ?_
   refine wpo_assign (v := .bool false) rfl rfl ?_
   exact wpo_nil ⟨(congrArg Value.bool (by first | (simp only [h126, b0, b1, b2, b3, b4, b5, b6, b7, b8, b9]; done) | simp [h126])), hg124⟩
 ·
  rintro f132 w133 ⟨e134, hg135⟩
  have hb136 := low0 hb108 hg135
  refine Xj ?_
  refine ⟨.bool (l1In a.s b.s && l1In b.v a.v), res1 rfl e134, ?_, hb136⟩
  rfl
theorem Hu [Comp] (r : Rt) (w : World) : CallsR Try.prog 94 #[.agg #[.int .i64 r.th, .int .i64 r.ve, .bool r.rd, .bool r.wr, .bool r.wk]] w (fun v w' => v = .bool (rightOk r) ∧ w.grownBy w' none) := by
 refine Xp (n := 26) Try.func94 rfl Try.ntmps94 rfl ?_
 have hb0 := World.grownBy.refl w none
 refine Xa ?_
 refine wpo_box (v := .agg #[.int .i64 r.th, .int .i64 r.ve, .bool r.rd, .bool r.wr, .bool r.wk]) (cs := #[.int .i64 r.th, .int .i64 r.ve, .bool r.rd, .bool r.wr, .bool r.wk]) rfl rfl rfl ?_
 intro B101 w102 hN103
 have hlB101 := X1 hN103 hb0
 have hb104 := low0 hb0 hN103.grw
 refine wpo_assign (v := .bool false) rfl rfl ?_
 refine wpo_nil ?_
 refine Xi ?_
 refine Xa ?_
 refine wpo_fieldAddr (o' := 0) Qx rfl rfl rfl ?_
 refine wpo_load1 (v := .int .i64 r.th) X0 rfl (hN103.blk.cell rfl) rfl ?_
 refine wpo_eql (q := decide (r.th = 0)) rfl rfl rfl rfl ?_
 refine wpo_nil ?_
 refine Xq rfl (fun h105 => ?_) (fun h105 => ?_)
 ·
  have h106 := of_decide_eq_true h105
  refine Xa ?_
  refine wpo_loadn (vs := [.int .i64 r.th, .int .i64 r.ve, .bool r.rd, .bool r.wr, .bool r.wk]) Y1 rfl rfl (hN103.blk.rangeL 0 5 rfl) rfl ?_
  refine wpo_build (ps := []) (v := .agg #[.int .i64 0, .int .i64 0, .bool false, .bool false, .bool false]) Xw (fun _ => by kernel_rfl) rfl ?_
  refine wpo_eqs (q := decide (r = Rt.zero)) rfl rfl rfl rfl (fun _ => M7 _ _ r Rt.zero _) (fun _ => Rv r Rt.zero _) rfl rfl ?_
  refine wpo_assign (v := .bool (decide (r = Rt.zero))) rfl rfl ?_
  refine wpo_nil ?_
  refine Xj ?_
  refine X7 ?_
  refine ⟨.bool (decide (r = Rt.zero)), res1 rfl rfl, ?_, hb104⟩
  exact congrArg Value.bool (Mg h105)
 ·
  have h107 := of_decide_eq_false h105
  refine Xk ?_
  refine Xn ?_
  refine Xs (fun f' w' => (f' 2 = .bool ((inR r.th 1 8 && inR r.ve 0 5) && (!(r.wk && r.wr)))) ∧ w102.grownBy w' none) ?_ ?_
  ·
   refine wpo_fieldAddr (o' := 0) Qx rfl rfl rfl ?_
   refine wpo_load1 (v := .int .i64 r.th) X0 rfl (hN103.blk.cell rfl) rfl ?_
   refine Xh (vs := [.int .i64 r.th, .int .i64 1, .int .i64 8]) V2 (Xb rfl (Xb rfl (Xb rfl Xg))) rfl (Kz r.th 1 8 _) ?_
   rintro _ w119 ⟨rfl, hg120⟩
   have hb121 := low0 hb104 hg120
   refine wpo_move (v := .bool (inR r.th 1 8)) rfl rfl ?_
   rcases Xy (inR r.th 1 8) with h122 | h122
   ·
    refine Xc rfl rfl rfl h122 ?_
    refine wpo_fieldAddr (o' := 1) J8 rfl rfl rfl ?_
    refine Xc rfl rfl rfl h122 ?_
    have k123 := (hN103.blk.grown0 hg120)
    refine wpo_load1 (v := .int .i64 r.ve) X0 rfl (k123.cell rfl) rfl ?_
    refine Xc rfl rfl rfl h122 ?_
    refine Xh (vs := [.int .i64 r.ve, .int .i64 0, .int .i64 5]) V2 (Xb rfl (Xb rfl (Xb rfl Xg))) rfl (Kz r.ve 0 5 _) ?_
    rintro _ w124 ⟨rfl, hg125⟩
    have hb126 := low0 hb121 hg125
    refine wpo_pickt (v := .bool (inR r.ve 0 5)) rfl h122 rfl rfl ?_
    refine wpo_move (v := .bool (inR r.ve 0 5)) rfl rfl ?_
    rcases Xy (inR r.ve 0 5) with h127 | h127
    ·
     refine Xc rfl rfl rfl h127 ?_
     refine wpo_fieldAddr (o' := 4) Wh rfl rfl rfl ?_
     refine Xc rfl rfl rfl h127 ?_
     have k128 := (k123.grown0 hg125)
     refine wpo_load1 (v := .bool r.wk) Vx rfl (k128.cell rfl) rfl ?_
     refine Xc rfl rfl rfl h127 ?_
     refine wpo_move (v := .bool r.wk) rfl rfl ?_
     rcases Xy (r.wk) with h129 | h129
     ·
      refine Xc rfl rfl rfl h129 ?_
      refine wpo_fieldAddr (o' := 3) Lx rfl rfl rfl ?_
      refine Xc rfl rfl rfl h129 ?_
      refine wpo_load1 (v := .bool r.wr) Vx rfl (k128.cell rfl) rfl ?_
      refine Xc rfl rfl rfl h127 ?_
      refine wpo_pickt (v := .bool r.wr) rfl h129 rfl rfl ?_
      refine Xc rfl rfl rfl h127 ?_
      refine wpo_not (b' := !r.wr) rfl rfl rfl ?_
      refine wpo_pickt (v := .bool (!r.wr)) rfl h127 rfl rfl ?_
      refine wpo_assign (v := .bool (!r.wr)) rfl rfl ?_
      exact wpo_nil ⟨(congrArg Value.bool (by first | (simp only [h105, h122, h127, h129, b0, b1, b2, b3, b4, b5, b6, b7, b8, b9]; done) | simp [h105, h122, h127, h129])), (Xf hg120 hg125)⟩
     ·
      refine Xe rfl rfl rfl h129 rfl ?_
      refine Xe rfl rfl rfl h129 rfl ?_
      refine Xc rfl rfl rfl h127 ?_
      refine wpo_pickf (v := .bool false) rfl h129 rfl rfl ?_
      refine Xc rfl rfl rfl h127 ?_
      refine wpo_not (b' := true) rfl rfl rfl ?_
      refine wpo_pickt (v := .bool true) rfl h127 rfl rfl ?_
      refine wpo_assign (v := .bool true) rfl rfl ?_
      exact wpo_nil ⟨(congrArg Value.bool (by first | (simp only [h105, h122, h127, h129, b0, b1, b2, b3, b4, b5, b6, b7, b8, b9]; done) | simp [h105, h122, h127, h129])), (Xf hg120 hg125)⟩
    ·
     iterate 3 refine Xe rfl rfl rfl h127 rfl ?_
     refine X4 rfl rfl rfl rfl ?_
     refine X4 rfl rfl rfl rfl ?_
     refine Xe rfl rfl rfl h127 rfl ?_
     refine Xe rfl rfl rfl h127 rfl ?_
     refine wpo_pickf (v := .bool false) rfl h127 rfl rfl ?_
     refine wpo_assign (v := .bool false) rfl rfl ?_
     exact wpo_nil ⟨(congrArg Value.bool (by first | (simp only [h105, h122, h127, b0, b1, b2, b3, b4, b5, b6, b7, b8, b9]; done) | simp [h105, h122, h127])), (Xf hg120 hg125)⟩
   ·
    iterate 3 refine Xe rfl rfl rfl h122 rfl ?_
    refine wpo_pickf (v := .bool false) rfl h122 rfl rfl ?_
    refine wpo_move (v := .bool false) rfl rfl ?_
    iterate 3 refine Xe rfl rfl rfl rfl rfl ?_
    refine X4 rfl rfl rfl rfl ?_
    refine X4 rfl rfl rfl rfl ?_
    refine Xe rfl rfl rfl rfl rfl ?_
    refine Xe rfl rfl rfl rfl rfl ?_
    refine wpo_pickf (v := .bool false) rfl rfl rfl rfl ?_
    refine wpo_assign (v := .bool false) rfl rfl ?_
    exact wpo_nil ⟨(congrArg Value.bool (by first | (simp only [h105, h122, b0, b1, b2, b3, b4, b5, b6, b7, b8, b9]; done) | simp [h105, h122])), hg120⟩
  ·
   rintro f130 w131 ⟨e132, hg133⟩
   have hb134 := low0 hb104 hg133
   refine Xj ?_
   refine ⟨.bool ((inR r.th 1 8 && inR r.ve 0 5) && (!(r.wk && r.wr))), res1 rfl e132, ?_, hb134⟩
   exact congrArg Value.bool (Mf h105)
end Go.Dw.J
end
section
namespace Go.Dw.J
open Go.RowKit Go.Dw Go.Proofs
set_option linter.unusedSectionVars false
set_option maxRecDepth 100000
set_option maxHeartbeats 4000000
set_option linter.unusedSimpArgs false
set_option linter.unusedVariables false
theorem We : elemSz Try.prog 32 = some 5 := by kernel_rfl
theorem S5 : mkTy Try.prog 32 = some (74, 5, 24, some (.agg #[.int .i64 0, .int .i64 0, .bool false, .bool false, .bool false])) := by kernel_rfl
theorem H1 : zeroTy Try.prog 74 = some (.agg #[.int .i64 0, .int .i64 0, .bool false, .bool false, .bool false]) := by kernel_rfl
end Go.Dw.J
end
section
namespace Go.Dw.J
open Go.RowKit Go.Dw Go.Proofs
set_option linter.unusedSectionVars false
set_option maxRecDepth 100000
set_option maxHeartbeats 4000000
set_option linter.unusedSimpArgs false
set_option linter.unusedVariables false
theorem Bb : elemSz Try.prog 22 = some 1 := by kernel_rfl
theorem Km : elemSz Try.prog 33 = some 1 := by kernel_rfl
theorem Vb : fieldOff Try.prog 97 0 = some 0 := by kernel_rfl
theorem Ly : fieldOff Try.prog 97 1 = some 1 := by kernel_rfl
theorem Qb : goFn Try.prog 60 = true := by kernel_rfl
theorem Gm : oneTy Try.prog 22 = true := by kernel_rfl
theorem Fk : oneTy Try.prog 5 = true := by kernel_rfl
theorem Yn [Comp] (p n : Int) (hp : 0 ≤ p ∧ p ≤ 1099511627776) (lo R : Nat) (bs : List Int) (a : Option Addr) (c : Nat) (w : World) (hR : Blk w R 97 #[.slice a bs.length c, .int .i64 p]) (hlo : lo ≤ R) (hs : SlLt lo w a 1 (bs.map bcell)) (hb : ∀ b ∈ bs, 0 ≤ b ∧ b ≤ 255) (hn : bs.length ≤ 1048576) : CallsR Try.prog 60 #[.pointer (some ⟨R, 0, none⟩), .int .i64 n] w (fun v w' => ∃ k : Int, v = .int .i64 k ∧ 0 ≤ k ∧ (k < n ∨ k = 0) ∧ Blk w' R 97 #[.slice a bs.length c, .int .i64 (p + 1)] ∧ w.grownBy w' (some R)) := by
 refine Xp (n := 99) Try.func60 rfl Try.ntmps60 rfl ?_
 have hb0 := World.grownBy.refl w (some R)
 have hRlt := hR.lt
 refine Xa ?_
 refine wpo_assign (v := .int .i64 0) rfl rfl ?_
 refine wpo_nil ?_
 refine Xa ?_
 refine wpo_move (v := .pointer (some ⟨R, 0, none⟩)) rfl rfl ?_
 refine wpo_move (v := .pointer (some ⟨R, 0, none⟩)) rfl rfl ?_
 refine wpo_nilCheck rfl rfl ?_
 refine wpo_fieldAddr (o' := 1) Ly rfl rfl rfl ?_
 refine wpo_load1 (v := .int .i64 p) X0 rfl (hR.cell rfl) rfl ?_
 refine wpo_add (c := p + 1) rfl rfl (by omega) (by omega) (by omega) rfl ?_
 refine wpo_nilCheck rfl rfl ?_
 refine wpo_fieldAddr (o' := 1) Ly rfl rfl rfl ?_
 refine wpo_store1 (v := .int .i64 (p + 1)) (cs' := #[.slice a bs.length c, .int .i64 (p + 1)]) X0 rfl rfl rfl hR (Nat.le_of_ble_eq_true rfl) rfl ?_
 intro w101 hS102
 have hb103 := Xf hb0 hS102.grw
 refine wpo_nil ?_
 refine Xi ?_
 refine Xs (fun f' w' => (f' 0 = .pointer (some ⟨R, 0, none⟩) ∧ f' 1 = .int .i64 n ∧ f' 4 = .int .i64 0 ∧ f' 24 = .bool ((decide (n < 1)) || (decide ((bs.length : Int) = 0)))) ∧ w101 = w') ?_ ?_
 ·
  refine wpo_move (v := .int .i64 n) rfl rfl ?_
  refine wpo_lss (q := decide (n < 1)) rfl rfl rfl rfl ?_
  refine wpo_move (v := .bool (decide (n < 1))) rfl rfl ?_
  rcases Xy (decide (n < 1)) with h104 | h104
  ·
   have h105 := of_decide_eq_true h104
   iterate 6 refine Xe rfl rfl rfl h104 rfl ?_
   refine wpo_pickt (v := .bool true) rfl h104 rfl rfl ?_
   exact wpo_nil ⟨⟨rfl, rfl, rfl, (congrArg Value.bool (by first | (simp only [h104, b0, b1, b2, b3, b4, b5, b6, b7, b8, b9]; done) | simp [h104]))⟩, rfl⟩
  ·
   have h106 := of_decide_eq_false h104
   refine Xc rfl rfl rfl h104 ?_
   refine wpo_move (v := .pointer (some ⟨R, 0, none⟩)) rfl rfl ?_
   refine Xc rfl rfl rfl h104 ?_
   refine wpo_nilCheck rfl rfl ?_
   refine Xc rfl rfl rfl h104 ?_
   refine wpo_fieldAddr (o' := 0) Vb rfl rfl rfl ?_
   refine Xc rfl rfl rfl h104 ?_
   refine wpo_load1 (v := .slice a bs.length c) Gm rfl (hS102.blk.cell rfl) rfl ?_
   refine Xc rfl rfl rfl h104 ?_
   refine wpo_len (by kernel_rfl) rfl rfl ?_
   refine Xc rfl rfl rfl h104 ?_
   refine wpo_eql (q := decide ((bs.length : Int) = 0)) rfl rfl rfl rfl ?_
   refine wpo_pickf (v := .bool (decide ((bs.length : Int) = 0))) rfl h104 rfl rfl ?_
   exact wpo_nil ⟨⟨rfl, rfl, rfl, (congrArg Value.bool (by first | (simp only [h104, b0, b1, b2, b3, b4, b5, b6, b7, b8, b9]; done) | simp [h104]))⟩, rfl⟩
 ·
  rintro f107 w108 ⟨⟨e109, e110, e111, e112⟩, rfl⟩
  refine Xq e112 (fun h113 => ?_) (fun h113 => ?_)
  ·
   refine Xa ?_
   refine wpo_assign (v := .int .i64 0) rfl rfl ?_
   refine wpo_nil ?_
   refine Xj ?_
   refine X7 ?_
   refine ⟨.int .i64 0, res1 rfl rfl, 0, rfl, by omega, by omega, hS102.blk, hb103⟩
  ·
   have h114 := J5 h113
   have h115 := of_decide_eq_false h114
   have h116 := J6 h113
   have h117 := of_decide_eq_false h116
   refine Xk ?_
   refine Xn ?_
   refine Xa ?_
   refine wpo_move (v := .pointer (some ⟨R, 0, none⟩)) e109 rfl ?_
   refine wpo_nilCheck rfl rfl ?_
   refine wpo_fieldAddr (o' := 1) Ly rfl rfl rfl ?_
   refine wpo_load1 (v := .int .i64 (p + 1)) X0 rfl (hS102.blk.cell rfl) rfl ?_
   refine wpo_sub (c := (p + 1) - 1) rfl rfl (by omega) (by omega) (by omega) rfl ?_
   refine wpo_assign (v := .int .i64 ((p + 1) - 1)) rfl rfl ?_
   refine wpo_nil ?_
   refine Xi ?_
   refine Xa ?_
   refine wpo_move (v := .int .i64 ((p + 1) - 1)) rfl rfl ?_
   refine wpo_move (v := .pointer (some ⟨R, 0, none⟩)) e109 rfl ?_
   refine wpo_nilCheck rfl rfl ?_
   refine wpo_fieldAddr (o' := 0) Vb rfl rfl rfl ?_
   refine wpo_load1 (v := .slice a bs.length c) Gm rfl (hS102.blk.cell rfl) rfl ?_
   refine wpo_len (by kernel_rfl) rfl rfl ?_
   refine wpo_lss (q := decide ((p + 1) - 1 < (bs.length : Int))) rfl rfl rfl rfl ?_
   refine wpo_nil ?_
   refine Xq rfl (fun h118 => ?_) (fun h118 => ?_)
   ·
    have h119 := of_decide_eq_true h118
    refine Xa ?_
    refine wpo_move (v := .pointer (some ⟨R, 0, none⟩)) e109 rfl ?_
    refine wpo_nilCheck rfl rfl ?_
    refine wpo_fieldAddr (o' := 0) Vb rfl rfl rfl ?_
    refine wpo_load1 (v := .slice a bs.length c) Gm rfl (hS102.blk.cell rfl) rfl ?_
    refine wpo_move (v := .int .i64 ((p + 1) - 1)) rfl rfl ?_
    obtain ⟨x120, hx121⟩ := Qc (l := bs) (i := ((p + 1) - 1).toNat) (by omega)
    obtain ⟨b122, q123, o124, ha125, ho126, hne128, hr127⟩ := SlLt.at hs (Yh hx121)
    have hbd129 := hb x120 (List.mem_of_getElem? hx121)
    refine X2 Bb rfl rfl ha125 ho126 (by omega) (by omega) rfl ?_
    refine wpo_load1 (v := .int .u8 x120) Fk rfl ((Qv hr127 hb103 (Ql (by omega))) 0 _ rfl) rfl ?_
    refine wpo_conv (P := Try.prog) (k' := .i64) rfl (by kernel_rfl) (by kernel_rfl) (Ha (by omega) (by omega)) rfl ?_
    refine wpo_move (v := .int .i64 n) e110 rfl ?_
    have hr130 := Int.emod_nonneg x120 (show n ≠ 0 by omega)
    have hr131 := Int.emod_lt_of_pos x120 (show 0 < n by omega)
    refine wpo_rem (c := x120 % n) rfl rfl (by omega) (by omega) (by omega) rfl rfl ?_
    refine wpo_assign (v := .int .i64 (x120 % n)) rfl rfl ?_
    refine wpo_nil ?_
    refine Xj ?_
    refine X7 ?_
    refine ⟨.int .i64 (x120 % n), res1 rfl rfl, (x120 % n), rfl, by omega, by omega, hS102.blk, hb103⟩
   ·
    have h132 := of_decide_eq_false h118
    refine Xk ?_
    refine Xn ?_
    refine Xi ?_
    have hr185 := Int.emod_nonneg ((p + 1) - 1) (show (bs.length : Int) ≠ 0 by omega)
    have hr186 := Int.emod_lt_of_pos ((p + 1) - 1) (show 0 < (bs.length : Int) by omega)
    obtain ⟨x189, hx190⟩ := Qc (l := bs) (i := (((p + 1) - 1) % (bs.length : Int)).toNat) (by omega)
    obtain ⟨b191, q192, o193, ha194, ho195, hne197, hr196⟩ := SlLt.at hs (Yh hx190)
    have hbd198 := hb x189 (List.mem_of_getElem? hx190)
    have hr199 := Int.emod_nonneg (((p + 1) - 1) * 7 + 3) (show (bs.length : Int) ≠ 0 by omega)
    have hr200 := Int.emod_lt_of_pos (((p + 1) - 1) * 7 + 3) (show 0 < (bs.length : Int) by omega)
    obtain ⟨x203, hx204⟩ := Qc (l := bs) (i := ((((p + 1) - 1) * 7 + 3) % (bs.length : Int)).toNat) (by omega)
    obtain ⟨b205, q206, o207, ha208, ho209, hne211, hr210⟩ := SlLt.at hs (Yh hx204)
    have hbd212 := hb x203 (List.mem_of_getElem? hx204)
    have hr213 := Int.ediv_nonneg (show 0 ≤ ((p + 1) - 1) by omega) (show 0 ≤ (bs.length : Int) by omega)
    have hr214 := Int.ediv_le_self (bs.length : Int) (show 0 ≤ ((p + 1) - 1) by omega)
    refine Qh (m := 44) (vals := [(47, .pointer (some ⟨R, 0, none⟩)), (48, .pointer (some ⟨R, 0, none⟩)), (49, .pointer (some ⟨R, 0, none⟩)), (50, .slice a bs.length c), (51, .int .i64 ((p + 1) - 1)), (52, .pointer (some ⟨R, 0, none⟩)), (53, .pointer (some ⟨R, 0, none⟩)), (54, .pointer (some ⟨R, 0, none⟩)), (55, .slice a bs.length c), (56, .int .i64 (bs.length : Int)), (57, .int .i64 (((p + 1) - 1) % (bs.length : Int))), (58, .pointer (some ⟨b191, o193, none⟩)), (59, .int .u8 x189), (60, .int .i64 x189), (61, .int .i64 (x189 * 131)), (62, .pointer (some ⟨R, 0, none⟩)), (63, .pointer (some ⟨R, 0, none⟩)), (64, .pointer (some ⟨R, 0, none⟩)), (65, .slice a bs.length c), (66, .int .i64 ((p + 1) - 1)), (67, .int .i64 (((p + 1) - 1) * 7)), (68, .int .i64 (((p + 1) - 1) * 7 + 3)), (69, .pointer (some ⟨R, 0, none⟩)), (70, .pointer (some ⟨R, 0, none⟩)), (71, .pointer (some ⟨R, 0, none⟩)), (72, .slice a bs.length c), (73, .int .i64 (bs.length : Int)), (74, .int .i64 ((((p + 1) - 1) * 7 + 3) % (bs.length : Int))), (75, .pointer (some ⟨b205, o207, none⟩)), (76, .int .u8 x203), (77, .int .i64 x203), (78, .int .i64 (x203 * 1117)), (79, .int .i64 (x189 * 131 + (x203 * 1117))), (80, .int .i64 ((p + 1) - 1)), (81, .int .i64 (((p + 1) - 1) * 29)), (82, .int .i64 (x189 * 131 + (x203 * 1117) + (((p + 1) - 1) * 29))), (83, .int .i64 ((p + 1) - 1)), (84, .pointer (some ⟨R, 0, none⟩)), (85, .pointer (some ⟨R, 0, none⟩)), (86, .pointer (some ⟨R, 0, none⟩)), (87, .slice a bs.length c), (88, .int .i64 (bs.length : Int)), (89, .int .i64 (((p + 1) - 1) / (bs.length : Int))), (90, .int .i64 ((((p + 1) - 1) / (bs.length : Int)) * 53))]) (fun w' => w101.grownBy w' none) Qq (by kernel_rfl) (X5 _) ?_ ?_
    ·
     refine Xd rfl (fun w217 hi218 => ?_) ?_
     ·
      have hb219 := low0 hb103 hi218
      refine wpo_move (v := .pointer (some ⟨R, 0, none⟩)) e109 rfl ?_
      exact wpo_nil ⟨rfl, hi218⟩
     refine Xd rfl (fun w220 hi221 => ?_) ?_
     ·
      have hb222 := low0 hb103 hi221
      refine wpo_nilCheck rfl rfl ?_
      exact wpo_nil ⟨rfl, hi221⟩
     refine Xd rfl (fun w223 hi224 => ?_) ?_
     ·
      have hb225 := low0 hb103 hi224
      refine wpo_fieldAddr (o' := 0) Vb rfl rfl rfl ?_
      exact wpo_nil ⟨rfl, hi224⟩
     refine Xd rfl (fun w226 hi227 => ?_) ?_
     ·
      have hb228 := low0 hb103 hi227
      have k229 := (hS102.blk.grown0 hi227)
      refine wpo_load1 (v := .slice a bs.length c) Gm rfl (k229.cell rfl) rfl ?_
      exact wpo_nil ⟨rfl, hi227⟩
     refine Xd rfl (fun w230 hi231 => ?_) ?_
     ·
      have hb232 := low0 hb103 hi231
      refine wpo_move (v := .int .i64 ((p + 1) - 1)) rfl rfl ?_
      exact wpo_nil ⟨rfl, hi231⟩
     refine Xd rfl (fun w233 hi234 => ?_) ?_
     ·
      have hb235 := low0 hb103 hi234
      refine wpo_move (v := .pointer (some ⟨R, 0, none⟩)) e109 rfl ?_
      exact wpo_nil ⟨rfl, hi234⟩
     refine Xd rfl (fun w236 hi237 => ?_) ?_
     ·
      have hb238 := low0 hb103 hi237
      refine wpo_nilCheck rfl rfl ?_
      exact wpo_nil ⟨rfl, hi237⟩
     refine Xd rfl (fun w239 hi240 => ?_) ?_
     ·
      have hb241 := low0 hb103 hi240
      refine wpo_fieldAddr (o' := 0) Vb rfl rfl rfl ?_
      exact wpo_nil ⟨rfl, hi240⟩
     refine Xd rfl (fun w242 hi243 => ?_) ?_
     ·
      have hb244 := low0 hb103 hi243
      have k245 := (hS102.blk.grown0 hi243)
      refine wpo_load1 (v := .slice a bs.length c) Gm rfl (k245.cell rfl) rfl ?_
      exact wpo_nil ⟨rfl, hi243⟩
     refine Xd rfl (fun w246 hi247 => ?_) ?_
     ·
      have hb248 := low0 hb103 hi247
      refine wpo_len (by kernel_rfl) rfl rfl ?_
      exact wpo_nil ⟨rfl, hi247⟩
     refine Xd rfl (fun w249 hi250 => ?_) ?_
     ·
      have hb251 := low0 hb103 hi250
      refine wpo_rem (c := ((p + 1) - 1) % (bs.length : Int)) rfl rfl (by omega) (by omega) (by omega) rfl rfl ?_
      exact wpo_nil ⟨rfl, hi250⟩
     refine Xd rfl (fun w252 hi253 => ?_) ?_
     ·
      have hb254 := low0 hb103 hi253
      refine X2 Bb rfl rfl ha194 ho195 (by omega) (by omega) rfl ?_
      exact wpo_nil ⟨rfl, hi253⟩
     refine Xd rfl (fun w255 hi256 => ?_) ?_
     ·
      have hb257 := low0 hb103 hi256
      refine wpo_load1 (v := .int .u8 x189) Fk rfl ((Qv hr196 hb257 (Ql (by omega))) 0 _ rfl) rfl ?_
      exact wpo_nil ⟨rfl, hi256⟩
     refine Xd rfl (fun w258 hi259 => ?_) ?_
     ·
      have hb260 := low0 hb103 hi259
      refine wpo_conv (P := Try.prog) (k' := .i64) rfl (by kernel_rfl) (by kernel_rfl) (Ha (by omega) (by omega)) rfl ?_
      exact wpo_nil ⟨rfl, hi259⟩
     refine Xd rfl (fun w261 hi262 => ?_) ?_
     ·
      have hb263 := low0 hb103 hi262
      refine wpo_mul (c := x189 * 131) rfl rfl rfl (by omega) (by omega) rfl ?_
      exact wpo_nil ⟨rfl, hi262⟩
     refine Xd rfl (fun w264 hi265 => ?_) ?_
     ·
      have hb266 := low0 hb103 hi265
      refine wpo_move (v := .pointer (some ⟨R, 0, none⟩)) e109 rfl ?_
      exact wpo_nil ⟨rfl, hi265⟩
     refine Xd rfl (fun w267 hi268 => ?_) ?_
     ·
      have hb269 := low0 hb103 hi268
      refine wpo_nilCheck rfl rfl ?_
      exact wpo_nil ⟨rfl, hi268⟩
     refine Xd rfl (fun w270 hi271 => ?_) ?_
     ·
      have hb272 := low0 hb103 hi271
      refine wpo_fieldAddr (o' := 0) Vb rfl rfl rfl ?_
      exact wpo_nil ⟨rfl, hi271⟩
     refine Xd rfl (fun w273 hi274 => ?_) ?_
     ·
      have hb275 := low0 hb103 hi274
      have k276 := (hS102.blk.grown0 hi274)
      refine wpo_load1 (v := .slice a bs.length c) Gm rfl (k276.cell rfl) rfl ?_
      exact wpo_nil ⟨rfl, hi274⟩
     refine Xd rfl (fun w277 hi278 => ?_) ?_
     ·
      have hb279 := low0 hb103 hi278
      refine wpo_move (v := .int .i64 ((p + 1) - 1)) rfl rfl ?_
      exact wpo_nil ⟨rfl, hi278⟩
     refine Xd rfl (fun w280 hi281 => ?_) ?_
     ·
      have hb282 := low0 hb103 hi281
      refine wpo_mul (c := ((p + 1) - 1) * 7) rfl rfl rfl (by omega) (by omega) rfl ?_
      exact wpo_nil ⟨rfl, hi281⟩
     refine Xd rfl (fun w283 hi284 => ?_) ?_
     ·
      have hb285 := low0 hb103 hi284
      refine wpo_add (c := ((p + 1) - 1) * 7 + 3) rfl rfl (by omega) (by omega) (by omega) rfl ?_
      exact wpo_nil ⟨rfl, hi284⟩
     refine Xd rfl (fun w286 hi287 => ?_) ?_
     ·
      have hb288 := low0 hb103 hi287
      refine wpo_move (v := .pointer (some ⟨R, 0, none⟩)) e109 rfl ?_
      exact wpo_nil ⟨rfl, hi287⟩
     refine Xd rfl (fun w289 hi290 => ?_) ?_
     ·
      have hb291 := low0 hb103 hi290
      refine wpo_nilCheck rfl rfl ?_
      exact wpo_nil ⟨rfl, hi290⟩
     refine Xd rfl (fun w292 hi293 => ?_) ?_
     ·
      have hb294 := low0 hb103 hi293
      refine wpo_fieldAddr (o' := 0) Vb rfl rfl rfl ?_
      exact wpo_nil ⟨rfl, hi293⟩
     refine Xd rfl (fun w295 hi296 => ?_) ?_
     ·
      have hb297 := low0 hb103 hi296
      have k298 := (hS102.blk.grown0 hi296)
      refine wpo_load1 (v := .slice a bs.length c) Gm rfl (k298.cell rfl) rfl ?_
      exact wpo_nil ⟨rfl, hi296⟩
     refine Xd rfl (fun w299 hi300 => ?_) ?_
     ·
      have hb301 := low0 hb103 hi300
      refine wpo_len (by kernel_rfl) rfl rfl ?_
      exact wpo_nil ⟨rfl, hi300⟩
     refine Xd rfl (fun w302 hi303 => ?_) ?_
     ·
      have hb304 := low0 hb103 hi303
      refine wpo_rem (c := (((p + 1) - 1) * 7 + 3) % (bs.length : Int)) rfl rfl (by omega) (by omega) (by omega) rfl rfl ?_
      exact wpo_nil ⟨rfl, hi303⟩
     refine Xd rfl (fun w305 hi306 => ?_) ?_
     ·
      have hb307 := low0 hb103 hi306
      refine X2 Bb rfl rfl ha208 ho209 (by omega) (by omega) rfl ?_
      exact wpo_nil ⟨rfl, hi306⟩
     refine Xd rfl (fun w308 hi309 => ?_) ?_
     ·
      have hb310 := low0 hb103 hi309
      refine wpo_load1 (v := .int .u8 x203) Fk rfl ((Qv hr210 hb310 (Ql (by omega))) 0 _ rfl) rfl ?_
      exact wpo_nil ⟨rfl, hi309⟩
     refine Xd rfl (fun w311 hi312 => ?_) ?_
     ·
      have hb313 := low0 hb103 hi312
      refine wpo_conv (P := Try.prog) (k' := .i64) rfl (by kernel_rfl) (by kernel_rfl) (Ha (by omega) (by omega)) rfl ?_
      exact wpo_nil ⟨rfl, hi312⟩
     refine Xd rfl (fun w314 hi315 => ?_) ?_
     ·
      have hb316 := low0 hb103 hi315
      refine wpo_mul (c := x203 * 1117) rfl rfl rfl (by omega) (by omega) rfl ?_
      exact wpo_nil ⟨rfl, hi315⟩
     refine Xd rfl (fun w317 hi318 => ?_) ?_
     ·
      have hb319 := low0 hb103 hi318
      refine wpo_add (c := x189 * 131 + (x203 * 1117)) rfl rfl (by omega) (by omega) (by omega) rfl ?_
      exact wpo_nil ⟨rfl, hi318⟩
     refine Xd rfl (fun w320 hi321 => ?_) ?_
     ·
      have hb322 := low0 hb103 hi321
      refine wpo_move (v := .int .i64 ((p + 1) - 1)) rfl rfl ?_
      exact wpo_nil ⟨rfl, hi321⟩
     refine Xd rfl (fun w323 hi324 => ?_) ?_
     ·
      have hb325 := low0 hb103 hi324
      refine wpo_mul (c := ((p + 1) - 1) * 29) rfl rfl rfl (by omega) (by omega) rfl ?_
      exact wpo_nil ⟨rfl, hi324⟩
     refine Xd rfl (fun w326 hi327 => ?_) ?_
     ·
      have hb328 := low0 hb103 hi327
      refine wpo_add (c := x189 * 131 + (x203 * 1117) + (((p + 1) - 1) * 29)) rfl rfl (by omega) (by omega) (by omega) rfl ?_
      exact wpo_nil ⟨rfl, hi327⟩
     refine Xd rfl (fun w329 hi330 => ?_) ?_
     ·
      have hb331 := low0 hb103 hi330
      refine wpo_move (v := .int .i64 ((p + 1) - 1)) rfl rfl ?_
      exact wpo_nil ⟨rfl, hi330⟩
     refine Xd rfl (fun w332 hi333 => ?_) ?_
     ·
      have hb334 := low0 hb103 hi333
      refine wpo_move (v := .pointer (some ⟨R, 0, none⟩)) e109 rfl ?_
      exact wpo_nil ⟨rfl, hi333⟩
     refine Xd rfl (fun w335 hi336 => ?_) ?_
     ·
      have hb337 := low0 hb103 hi336
      refine wpo_nilCheck rfl rfl ?_
      exact wpo_nil ⟨rfl, hi336⟩
     refine Xd rfl (fun w338 hi339 => ?_) ?_
     ·
      have hb340 := low0 hb103 hi339
      refine wpo_fieldAddr (o' := 0) Vb rfl rfl rfl ?_
      exact wpo_nil ⟨rfl, hi339⟩
     refine Xd rfl (fun w341 hi342 => ?_) ?_
     ·
      have hb343 := low0 hb103 hi342
      have k344 := (hS102.blk.grown0 hi342)
      refine wpo_load1 (v := .slice a bs.length c) Gm rfl (k344.cell rfl) rfl ?_
      exact wpo_nil ⟨rfl, hi342⟩
     refine Xd rfl (fun w345 hi346 => ?_) ?_
     ·
      have hb347 := low0 hb103 hi346
      refine wpo_len (by kernel_rfl) rfl rfl ?_
      exact wpo_nil ⟨rfl, hi346⟩
     refine Xd rfl (fun w348 hi349 => ?_) ?_
     ·
      have hb350 := low0 hb103 hi349
      refine wpo_quo (c := ((p + 1) - 1) / (bs.length : Int)) rfl rfl (by omega) (by omega) (by omega) rfl rfl ?_
      exact wpo_nil ⟨rfl, hi349⟩
     refine Xd rfl (fun w351 hi352 => ?_) ?_
     ·
      have hb353 := low0 hb103 hi352
      refine wpo_mul (c := (((p + 1) - 1) / (bs.length : Int)) * 53) rfl rfl rfl (by omega) (by omega) rfl ?_
      exact wpo_nil ⟨rfl, hi352⟩
     exact Q0
    ·
     intro w354 hi355
     have hb356 := low0 hb103 hi355
     refine wpo_add (c := x189 * 131 + (x203 * 1117) + (((p + 1) - 1) * 29) + ((((p + 1) - 1) / (bs.length : Int)) * 53)) rfl rfl (by omega) (by omega) (by omega) rfl ?_
     refine wpo_assign (v := .int .i64 (x189 * 131 + (x203 * 1117) + (((p + 1) - 1) * 29) + ((((p + 1) - 1) / (bs.length : Int)) * 53))) rfl rfl ?_
     refine wpo_nil ?_
     refine Xn ?_
     refine Xa ?_
     refine wpo_move (v := .int .i64 (x189 * 131 + (x203 * 1117) + (((p + 1) - 1) * 29) + ((((p + 1) - 1) / (bs.length : Int)) * 53))) rfl rfl ?_
     refine wpo_move (v := .int .i64 (x189 * 131 + (x203 * 1117) + (((p + 1) - 1) * 29) + ((((p + 1) - 1) / (bs.length : Int)) * 53))) rfl rfl ?_
     refine wpo_quo (c := (x189 * 131 + (x203 * 1117) + (((p + 1) - 1) * 29) + ((((p + 1) - 1) / (bs.length : Int)) * 53)) / 64) rfl rfl (by omega) (by omega) (by omega) rfl rfl ?_
     have hx357 := Eg (x := x189 * 131 + (x203 * 1117) + (((p + 1) - 1) * 29) + ((((p + 1) - 1) / (bs.length : Int)) * 53)) (y := (x189 * 131 + (x203 * 1117) + (((p + 1) - 1) * 29) + ((((p + 1) - 1) / (bs.length : Int)) * 53)) / 64) (by omega) (by omega) (by omega) (by omega)
     refine wpo_bin (u := .int .i64 (x189 * 131 + (x203 * 1117) + (((p + 1) - 1) * 29) + ((((p + 1) - 1) / (bs.length : Int)) * 53))) (u' := .int .i64 ((x189 * 131 + (x203 * 1117) + (((p + 1) - 1) * 29) + ((((p + 1) - 1) / (bs.length : Int)) * 53)) / 64)) (v := .int .i64 (bits .xor .i64 (x189 * 131 + (x203 * 1117) + (((p + 1) - 1) * 29) + ((((p + 1) - 1) / (bs.length : Int)) * 53)) ((x189 * 131 + (x203 * 1117) + (((p + 1) - 1) * 29) + ((((p + 1) - 1) / (bs.length : Int)) * 53)) / 64))) rfl rfl rfl rfl (fun _ => by rw [binOp_xor, intBits_xor]; rfl) (fun _ _ => eqGuard_at_int ..) rfl ?_
     refine wpo_assign (v := .int .i64 (bits .xor .i64 (x189 * 131 + (x203 * 1117) + (((p + 1) - 1) * 29) + ((((p + 1) - 1) / (bs.length : Int)) * 53)) ((x189 * 131 + (x203 * 1117) + (((p + 1) - 1) * 29) + ((((p + 1) - 1) / (bs.length : Int)) * 53)) / 64))) rfl rfl ?_
     refine wpo_nil ?_
     refine Xa ?_
     refine wpo_move (v := .int .i64 (bits .xor .i64 (x189 * 131 + (x203 * 1117) + (((p + 1) - 1) * 29) + ((((p + 1) - 1) / (bs.length : Int)) * 53)) ((x189 * 131 + (x203 * 1117) + (((p + 1) - 1) * 29) + ((((p + 1) - 1) / (bs.length : Int)) * 53)) / 64))) rfl rfl ?_
     refine wpo_move (v := .int .i64 n) e110 rfl ?_
     have hr358 := Int.emod_nonneg (bits .xor .i64 (x189 * 131 + (x203 * 1117) + (((p + 1) - 1) * 29) + ((((p + 1) - 1) / (bs.length : Int)) * 53)) ((x189 * 131 + (x203 * 1117) + (((p + 1) - 1) * 29) + ((((p + 1) - 1) / (bs.length : Int)) * 53)) / 64)) (show n ≠ 0 by omega)
     have hr359 := Int.emod_lt_of_pos (bits .xor .i64 (x189 * 131 + (x203 * 1117) + (((p + 1) - 1) * 29) + ((((p + 1) - 1) / (bs.length : Int)) * 53)) ((x189 * 131 + (x203 * 1117) + (((p + 1) - 1) * 29) + ((((p + 1) - 1) / (bs.length : Int)) * 53)) / 64)) (show 0 < n by omega)
     refine wpo_rem (c := (bits .xor .i64 (x189 * 131 + (x203 * 1117) + (((p + 1) - 1) * 29) + ((((p + 1) - 1) / (bs.length : Int)) * 53)) ((x189 * 131 + (x203 * 1117) + (((p + 1) - 1) * 29) + ((((p + 1) - 1) / (bs.length : Int)) * 53)) / 64)) % n) rfl rfl (by omega) (by omega) (by omega) rfl rfl ?_
     refine wpo_assign (v := .int .i64 ((bits .xor .i64 (x189 * 131 + (x203 * 1117) + (((p + 1) - 1) * 29) + ((((p + 1) - 1) / (bs.length : Int)) * 53)) ((x189 * 131 + (x203 * 1117) + (((p + 1) - 1) * 29) + ((((p + 1) - 1) / (bs.length : Int)) * 53)) / 64)) % n)) rfl rfl ?_
     refine wpo_nil ?_
     refine Xj ?_
     have k360 := (hS102.blk.grown0 hi355)
     refine ⟨.int .i64 ((bits .xor .i64 (x189 * 131 + (x203 * 1117) + (((p + 1) - 1) * 29) + ((((p + 1) - 1) / (bs.length : Int)) * 53)) ((x189 * 131 + (x203 * 1117) + (((p + 1) - 1) * 29) + ((((p + 1) - 1) / (bs.length : Int)) * 53)) / 64)) % n), res1 rfl rfl, ((bits .xor .i64 (x189 * 131 + (x203 * 1117) + (((p + 1) - 1) * 29) + ((((p + 1) - 1) / (bs.length : Int)) * 53)) ((x189 * 131 + (x203 * 1117) + (((p + 1) - 1) * 29) + ((((p + 1) - 1) / (bs.length : Int)) * 53)) / 64)) % n), rfl, by omega, by omega, k360, hb356⟩
theorem R1 [Comp] (p : Int) (hp : 0 ≤ p ∧ p ≤ 1000000000000) (lo R : Nat) (bs : List Int) (a : Option Addr) (c : Nat) (w : World) (hR : Blk w R 97 #[.slice a bs.length c, .int .i64 p]) (hlo : lo ≤ R) (hs : SlLt lo w a 1 (bs.map bcell)) (hb : ∀ b ∈ bs, 0 ≤ b ∧ b ≤ 255) (hn : bs.length ≤ 1048576) : CallsR Try.prog 110 #[.pointer (some ⟨R, 0, none⟩)] w (fun v w' => ∃ (r : Rt) (p' : Int), v = .agg #[.int .i64 r.th, .int .i64 r.ve, .bool r.rd, .bool r.wr, .bool r.wk] ∧ -1 ≤ r.th ∧ r.th ≤ 9 ∧ -1 ≤ r.ve ∧ r.ve ≤ 9 ∧ p ≤ p' ∧ p' ≤ p + 8 ∧ Blk w' R 97 #[.slice a bs.length c, .int .i64 p'] ∧ w.grownBy w' (some R)) := by
 refine Xp (n := 49) Try.func110 rfl Try.ntmps110 rfl ?_
 have hb0 := World.grownBy.refl w (some R)
 have hRlt := hR.lt
 refine Xa ?_
 refine wpo_alloc (cs := #[.int .i64 0, .int .i64 0, .bool false, .bool false, .bool false]) H1 rfl rfl ?_
 intro B101 w102 hN103
 have hlB101 := X1 hN103 hb0
 have lt_R_B101 := Xo hN103 (hR).lt
 have hb104 := low0 hb0 hN103.grw
 refine wpo_nil ?_
 refine Xi ?_
 refine Xa ?_
 refine wpo_move (v := .pointer (some ⟨R, 0, none⟩)) rfl rfl ?_
 have k105 := (hR.grown0 hN103.grw)
 refine Xh (vs := [.pointer (some ⟨R, 0, none⟩), .int .i64 6]) Qb (Xb rfl (Xb rfl Xg)) rfl (Yn p 6 (by omega) _ R bs _ _ _ k105 (by omega) (SlLt.low1 hs hb104 hlo) (by first | exact hb | exact fun b h => hb b (List.mem_of_mem_take h)) (by first | omega | (rw [List.length_take]; omega))) ?_
 rintro _ w111 ⟨k106, rfl, hk107, hk108, kR109, hg110⟩
 have hb112 := Xf hb104 hg110
 refine wpo_eql (q := decide (k106 = 0)) rfl rfl rfl rfl ?_
 refine wpo_nil ?_
 refine Xq rfl (fun h113 => ?_) (fun h113 => ?_)
 ·
  have h114 := of_decide_eq_true h113
  refine Xa ?_
  refine wpo_build (ps := []) (v := .agg #[.int .i64 0, .int .i64 0, .bool false, .bool false, .bool false]) Xw (fun _ => by kernel_rfl) rfl ?_
  have k115 := (hN103.blk.gn hg110)
  refine wpo_storen (vs := [.int .i64 0, .int .i64 0, .bool false, .bool false, .bool false]) (cs' := #[.int .i64 0, .int .i64 0, .bool false, .bool false, .bool false]) Y1 rfl rfl rfl (by simp [Value.oneCell']) k115 (Nat.le_of_ble_eq_true rfl) rfl ?_
  intro w116 hS117
  have hb118 := low1 hb112 hS117.grw (by omega)
  refine wpo_nil ?_
  refine Xj ?_
  refine X7 ?_
  have k119 := (kR109.gn hS117.grw)
  refine ⟨.agg #[.int .i64 0, .int .i64 0, .bool false, .bool false, .bool false], resC rfl (resCell_mk (vs := [.int .i64 0, .int .i64 0, .bool false, .bool false, .bool false]) Y1 rfl rfl (hS117.blk.rangeL 0 5 rfl)), ⟨0, 0, false, false, false⟩, (p + 1), rfl, show (-1 : Int) ≤ 0 by omega, show 0 ≤ (9 : Int) by omega, show (-1 : Int) ≤ 0 by omega, show 0 ≤ (9 : Int) by omega, by omega, by omega, k119, hb118⟩
 ·
  have h120 := of_decide_eq_false h113
  refine Xk ?_
  refine Xn ?_
  refine Xa ?_
  refine wpo_move (v := .pointer (some ⟨R, 0, none⟩)) rfl rfl ?_
  refine Xh (vs := [.pointer (some ⟨R, 0, none⟩), .int .i64 8]) Qb (Xb rfl (Xb rfl Xg)) rfl (Yn (p + 1) 8 (by omega) _ R bs _ _ _ kR109 (by omega) (SlLt.low1 hs hb112 hlo) (by first | exact hb | exact fun b h => hb b (List.mem_of_mem_take h)) (by first | omega | (rw [List.length_take]; omega))) ?_
  rintro _ w126 ⟨k121, rfl, hk122, hk123, kR124, hg125⟩
  have hb127 := Xf hb112 hg125
  refine wpo_add (c := 1 + k121) rfl rfl (by omega) (by omega) (by omega) rfl ?_
  refine wpo_move (v := .pointer (some ⟨R, 0, none⟩)) rfl rfl ?_
  refine Xh (vs := [.pointer (some ⟨R, 0, none⟩), .int .i64 3]) Qb (Xb rfl (Xb rfl Xg)) rfl (Yn (p + 1 + 1) 3 (by omega) _ R bs _ _ _ kR124 (by omega) (SlLt.low1 hs hb127 hlo) (by first | exact hb | exact fun b h => hb b (List.mem_of_mem_take h)) (by first | omega | (rw [List.length_take]; omega))) ?_
  rintro _ w133 ⟨k128, rfl, hk129, hk130, kR131, hg132⟩
  have hb134 := Xf hb127 hg132
  refine wpo_move (v := .pointer (some ⟨R, 0, none⟩)) rfl rfl ?_
  refine Xh (vs := [.pointer (some ⟨R, 0, none⟩), .int .i64 4]) Qb (Xb rfl (Xb rfl Xg)) rfl (Yn (p + 1 + 1 + 1) 4 (by omega) _ R bs _ _ _ kR131 (by omega) (SlLt.low1 hs hb134 hlo) (by first | exact hb | exact fun b h => hb b (List.mem_of_mem_take h)) (by first | omega | (rw [List.length_take]; omega))) ?_
  rintro _ w140 ⟨k135, rfl, hk136, hk137, kR138, hg139⟩
  have hb141 := Xf hb134 hg139
  refine wpo_gtr (q := decide (0 < k135)) rfl rfl rfl rfl ?_
  refine wpo_move (v := .pointer (some ⟨R, 0, none⟩)) rfl rfl ?_
  refine Xh (vs := [.pointer (some ⟨R, 0, none⟩), .int .i64 2]) Qb (Xb rfl (Xb rfl Xg)) rfl (Yn (p + 1 + 1 + 1 + 1) 2 (by omega) _ R bs _ _ _ kR138 (by omega) (SlLt.low1 hs hb141 hlo) (by first | exact hb | exact fun b h => hb b (List.mem_of_mem_take h)) (by first | omega | (rw [List.length_take]; omega))) ?_
  rintro _ w147 ⟨k142, rfl, hk143, hk144, kR145, hg146⟩
  have hb148 := Xf hb141 hg146
  refine wpo_eql (q := decide (k142 = 0)) rfl rfl rfl rfl ?_
  refine wpo_build (ps := [(0, .int .i64 (1 + k121)), (1, .int .i64 k128), (2, .bool (decide (0 < k135))), (3, .bool (decide (k142 = 0)))]) (v := .agg #[.int .i64 (1 + k121), .int .i64 k128, .bool (decide (0 < k135)), .bool (decide (k142 = 0)), .bool false]) (Xm rfl (Xm rfl (Xm rfl (Xm rfl Xw)))) (fun _ => by kernel_rfl) rfl ?_
  refine wpo_alloc (cs := #[.int .i64 0, .int .i64 0, .bool false, .bool false, .bool false]) H1 rfl rfl ?_
  intro B149 w150 hN151
  have hlB149 := X1 hN151 hb148
  have lt_R_B149 := Xo hN151 (kR145).lt
  have k152 := (((((hN103.blk.gn hg110).gn hg125).gn hg132).gn hg139).gn hg146)
  have lt_B101_B149 := Xo hN151 (k152).lt
  have hb153 := low0 hb148 hN151.grw
  refine wpo_storen (vs := [.int .i64 (1 + k121), .int .i64 k128, .bool (decide (0 < k135)), .bool (decide (k142 = 0)), .bool false]) (cs' := #[.int .i64 (1 + k121), .int .i64 k128, .bool (decide (0 < k135)), .bool (decide (k142 = 0)), .bool false]) Y1 rfl rfl rfl (by simp [Value.oneCell']) hN151.blk (Nat.le_of_ble_eq_true rfl) rfl ?_
  intro w154 hS155
  have hb156 := low1 hb153 hS155.grw (by omega)
  refine wpo_nil ?_
  refine Xi ?_
  refine Xa ?_
  refine wpo_fieldAddr (o' := 3) Lx rfl rfl rfl ?_
  refine wpo_load1 (v := .bool (decide (k142 = 0))) Vx rfl (hS155.blk.cell rfl) rfl ?_
  refine wpo_not (b' := !(decide (k142 = 0))) rfl rfl rfl ?_
  refine wpo_nil ?_
  refine Xq rfl (fun h157 => ?_) (fun h157 => ?_)
  ·
   have h158 := Q3 h157
   have h159 := of_decide_eq_false h158
   refine Xl ?_
   refine wpo_move (v := .pointer (some ⟨R, 0, none⟩)) rfl rfl ?_
   have k160 := ((kR145.grown0 hN151.grw).gn hS155.grw)
   refine Xh (vs := [.pointer (some ⟨R, 0, none⟩), .int .i64 2]) Qb (Xb rfl (Xb rfl Xg)) rfl (Yn (p + 1 + 1 + 1 + 1 + 1) 2 (by omega) _ R bs _ _ _ k160 (by omega) (SlLt.low1 hs hb156 hlo) (by first | exact hb | exact fun b h => hb b (List.mem_of_mem_take h)) (by first | omega | (rw [List.length_take]; omega))) ?_
   rintro _ w166 ⟨k161, rfl, hk162, hk163, kR164, hg165⟩
   have hb167 := Xf hb156 hg165
   refine wpo_eql (q := decide (k161 = 0)) rfl rfl rfl rfl ?_
   refine wpo_fieldAddr (o' := 4) Wh rfl rfl rfl ?_
   have k168 := (hS155.blk.gn hg165)
   refine wpo_store1 (v := .bool (decide (k161 = 0))) (cs' := #[.int .i64 (1 + k121), .int .i64 k128, .bool (decide (0 < k135)), .bool (decide (k142 = 0)), .bool (decide (k161 = 0))]) Vx rfl rfl rfl k168 (Nat.le_of_ble_eq_true rfl) rfl ?_
   intro w169 hS170
   have hb171 := low1 hb167 hS170.grw (by omega)
   refine wpo_nil ?_
   refine Xn ?_
   refine Xi ?_
   refine Xa ?_
   refine wpo_move (v := .pointer (some ⟨R, 0, none⟩)) rfl rfl ?_
   have k172 := (kR164.gn hS170.grw)
   refine Xh (vs := [.pointer (some ⟨R, 0, none⟩), .int .i64 40]) Qb (Xb rfl (Xb rfl Xg)) rfl (Yn (p + 1 + 1 + 1 + 1 + 1 + 1) 40 (by omega) _ R bs _ _ _ k172 (by omega) (SlLt.low1 hs hb171 hlo) (by first | exact hb | exact fun b h => hb b (List.mem_of_mem_take h)) (by first | omega | (rw [List.length_take]; omega))) ?_
   rintro _ w178 ⟨k173, rfl, hk174, hk175, kR176, hg177⟩
   have hb179 := Xf hb171 hg177
   refine wpo_nil ?_
   refine Xv ?_
   refine Xa ?_
   refine wpo_eql (q := decide (k173 = 0)) rfl rfl rfl rfl ?_
   refine wpo_assign (v := .bool (decide (k173 = 0))) rfl rfl ?_
   refine wpo_nil ?_
   refine Xq rfl (fun h180 => ?_) (fun h180 => ?_)
   ·
    have h181 := of_decide_eq_true h180
    refine Xl ?_
    refine wpo_fieldAddr (o' := 4) Wh rfl rfl rfl ?_
    have k182 := (hS170.blk.gn hg177)
    refine wpo_store1 (v := .bool true) (cs' := #[.int .i64 (1 + k121), .int .i64 k128, .bool (decide (0 < k135)), .bool (decide (k142 = 0)), .bool true]) Vx rfl rfl rfl k182 (Nat.le_of_ble_eq_true rfl) rfl ?_
    intro w183 hS184
    have hb185 := low1 hb179 hS184.grw (by omega)
    refine wpo_nil ?_
    refine Yy ?_
    refine Xn ?_
    refine Xa ?_
    refine wpo_loadn (vs := [.int .i64 (1 + k121), .int .i64 k128, .bool (decide (0 < k135)), .bool (decide (k142 = 0)), .bool true]) Y1 rfl rfl (hS184.blk.rangeL 0 5 rfl) rfl ?_
    have k186 := ((((((k152.grown0 hN151.grw).gn hS155.grw).gn hg165).gn hS170.grw).gn hg177).gn hS184.grw)
    refine wpo_storen (vs := [.int .i64 (1 + k121), .int .i64 k128, .bool (decide (0 < k135)), .bool (decide (k142 = 0)), .bool true]) (cs' := #[.int .i64 (1 + k121), .int .i64 k128, .bool (decide (0 < k135)), .bool (decide (k142 = 0)), .bool true]) Y1 rfl rfl rfl (by simp [Value.oneCell']) k186 (Nat.le_of_ble_eq_true rfl) rfl ?_
    intro w187 hS188
    have hb189 := low1 hb185 hS188.grw (by omega)
    refine wpo_nil ?_
    refine Xj ?_
    have k190 := ((kR176.gn hS184.grw).gn hS188.grw)
    refine ⟨.agg #[.int .i64 (1 + k121), .int .i64 k128, .bool (decide (0 < k135)), .bool (decide (k142 = 0)), .bool true], resC rfl (resCell_mk (vs := [.int .i64 (1 + k121), .int .i64 k128, .bool (decide (0 < k135)), .bool (decide (k142 = 0)), .bool true]) Y1 rfl rfl (hS188.blk.rangeL 0 5 rfl)), ⟨1 + k121, k128, decide (0 < k135), decide (k142 = 0), true⟩, (p + 1 + 1 + 1 + 1 + 1 + 1 + 1), rfl, show (-1 : Int) ≤ 1 + k121 by omega, show 1 + k121 ≤ (9 : Int) by omega, show (-1 : Int) ≤ k128 by omega, show k128 ≤ (9 : Int) by omega, by omega, by omega, k190, hb189⟩
   ·
    have h191 := of_decide_eq_false h180
    refine Xa ?_
    refine wpo_eql (q := decide (k173 = 1)) rfl rfl rfl rfl ?_
    refine wpo_assign (v := .bool (decide (k173 = 1))) rfl rfl ?_
    refine wpo_nil ?_
    refine Xq rfl (fun h192 => ?_) (fun h192 => ?_)
    ·
     have h193 := of_decide_eq_true h192
     refine Xl ?_
     refine wpo_buildSlice (ps := [(0, .int .i64 0), (1, .int .i64 9), (2, .int .i64 (-1))]) (e := 3) (cs := (([0, 9, (-1)] : List Int).flatMap icell).toArray) (Xm rfl (Xm rfl (Xm rfl Xw))) (fun _ => by kernel_rfl) rfl ?_
     intro B194 w195 hN196
     have hlB194 := X1 hN196 hb179
     have lt_R_B194 := Xo hN196 (kR176).lt
     have k197 := (((((k152.grown0 hN151.grw).gn hS155.grw).gn hg165).gn hS170.grw).gn hg177)
     have lt_B101_B194 := Xo hN196 (k197).lt
     have k198 := (hS170.blk.gn hg177)
     have lt_B149_B194 := Xo hN196 (k198).lt
     have hb199 := low0 hb179 hN196.grw
     refine wpo_move (v := .pointer (some ⟨R, 0, none⟩)) rfl rfl ?_
     have k200 := (kR176.grown0 hN196.grw)
     refine Xh (vs := [.pointer (some ⟨R, 0, none⟩), .int .i64 3]) Qb (Xb rfl (Xb rfl Xg)) rfl (Yn (p + 1 + 1 + 1 + 1 + 1 + 1 + 1) 3 (by omega) _ R bs _ _ _ k200 (by omega) (SlLt.low1 hs hb199 hlo) (by first | exact hb | exact fun b h => hb b (List.mem_of_mem_take h)) (by first | omega | (rw [List.length_take]; omega))) ?_
     rintro _ w206 ⟨k201, rfl, hk202, hk203, kR204, hg205⟩
     have hb207 := Xf hb199 hg205
     refine wpo_indexAddr (o' := (k201).toNat * 1) Km rfl rfl (by omega) (by omega) (by omega) rfl ?_
     have k208 := (hN196.blk.gn hg205)
     obtain ⟨x209, hx210⟩ := Qc (l := ([0, 9, (-1)] : List Int)) (i := (k201).toNat) (show (k201).toNat < 3 by omega)
     have hm211 := List.mem_of_getElem? hx210
     simp only [List.mem_cons, List.not_mem_nil, or_false] at hm211
     refine wpo_load1 (v := .int .i64 x209) X0 rfl ((Jl Yb k208 hx210) 0 _ rfl) rfl ?_
     refine wpo_fieldAddr (o' := 0) Qx rfl rfl rfl ?_
     have k212 := ((k198.grown0 hN196.grw).gn hg205)
     refine wpo_store1 (v := .int .i64 x209) (cs' := #[.int .i64 x209, .int .i64 k128, .bool (decide (0 < k135)), .bool (decide (k142 = 0)), .bool (decide (k161 = 0))]) X0 rfl rfl rfl k212 (Nat.le_of_ble_eq_true rfl) rfl ?_
     intro w213 hS214
     have hb215 := low1 hb207 hS214.grw (by omega)
     refine wpo_nil ?_
     refine Yy ?_
     refine Xn ?_
     refine Xa ?_
     refine wpo_loadn (vs := [.int .i64 x209, .int .i64 k128, .bool (decide (0 < k135)), .bool (decide (k142 = 0)), .bool (decide (k161 = 0))]) Y1 rfl rfl (hS214.blk.rangeL 0 5 rfl) rfl ?_
     have k216 := (((k197.grown0 hN196.grw).gn hg205).gn hS214.grw)
     refine wpo_storen (vs := [.int .i64 x209, .int .i64 k128, .bool (decide (0 < k135)), .bool (decide (k142 = 0)), .bool (decide (k161 = 0))]) (cs' := #[.int .i64 x209, .int .i64 k128, .bool (decide (0 < k135)), .bool (decide (k142 = 0)), .bool (decide (k161 = 0))]) Y1 rfl rfl rfl (by simp [Value.oneCell']) k216 (Nat.le_of_ble_eq_true rfl) rfl ?_
     intro w217 hS218
     have hb219 := low1 hb215 hS218.grw (by omega)
     refine wpo_nil ?_
     refine Xj ?_
     have k220 := ((kR204.gn hS214.grw).gn hS218.grw)
     refine ⟨.agg #[.int .i64 x209, .int .i64 k128, .bool (decide (0 < k135)), .bool (decide (k142 = 0)), .bool (decide (k161 = 0))], resC rfl (resCell_mk (vs := [.int .i64 x209, .int .i64 k128, .bool (decide (0 < k135)), .bool (decide (k142 = 0)), .bool (decide (k161 = 0))]) Y1 rfl rfl (hS218.blk.rangeL 0 5 rfl)), ⟨x209, k128, decide (0 < k135), decide (k142 = 0), decide (k161 = 0)⟩, (p + 1 + 1 + 1 + 1 + 1 + 1 + 1 + 1), rfl, show (-1 : Int) ≤ x209 by omega, show x209 ≤ (9 : Int) by omega, show (-1 : Int) ≤ k128 by omega, show k128 ≤ (9 : Int) by omega, by omega, by omega, k220, hb219⟩
    ·
     have h221 := of_decide_eq_false h192
     refine Xa ?_
     refine wpo_eql (q := decide (k173 = 2)) rfl rfl rfl rfl ?_
     refine wpo_assign (v := .bool (decide (k173 = 2))) rfl rfl ?_
     refine wpo_nil ?_
     refine Xq rfl (fun h222 => ?_) (fun h222 => ?_)
     ·
      have h223 := of_decide_eq_true h222
      refine Xl ?_
      refine wpo_buildSlice (ps := [(0, .int .i64 (-1)), (1, .int .i64 5), (2, .int .i64 6)]) (e := 3) (cs := (([(-1), 5, 6] : List Int).flatMap icell).toArray) (Xm rfl (Xm rfl (Xm rfl Xw))) (fun _ => by kernel_rfl) rfl ?_
      intro B224 w225 hN226
      have hlB224 := X1 hN226 hb179
      have lt_R_B224 := Xo hN226 (kR176).lt
      have k227 := (((((k152.grown0 hN151.grw).gn hS155.grw).gn hg165).gn hS170.grw).gn hg177)
      have lt_B101_B224 := Xo hN226 (k227).lt
      have k228 := (hS170.blk.gn hg177)
      have lt_B149_B224 := Xo hN226 (k228).lt
      have hb229 := low0 hb179 hN226.grw
      refine wpo_move (v := .pointer (some ⟨R, 0, none⟩)) rfl rfl ?_
      have k230 := (kR176.grown0 hN226.grw)
      refine Xh (vs := [.pointer (some ⟨R, 0, none⟩), .int .i64 3]) Qb (Xb rfl (Xb rfl Xg)) rfl (Yn (p + 1 + 1 + 1 + 1 + 1 + 1 + 1) 3 (by omega) _ R bs _ _ _ k230 (by omega) (SlLt.low1 hs hb229 hlo) (by first | exact hb | exact fun b h => hb b (List.mem_of_mem_take h)) (by first | omega | (rw [List.length_take]; omega))) ?_
      rintro _ w236 ⟨k231, rfl, hk232, hk233, kR234, hg235⟩
      have hb237 := Xf hb229 hg235
      refine wpo_indexAddr (o' := (k231).toNat * 1) Km rfl rfl (by omega) (by omega) (by omega) rfl ?_
      have k238 := (hN226.blk.gn hg235)
      obtain ⟨x239, hx240⟩ := Qc (l := ([(-1), 5, 6] : List Int)) (i := (k231).toNat) (show (k231).toNat < 3 by omega)
      have hm241 := List.mem_of_getElem? hx240
      simp only [List.mem_cons, List.not_mem_nil, or_false] at hm241
      refine wpo_load1 (v := .int .i64 x239) X0 rfl ((Jl Yb k238 hx240) 0 _ rfl) rfl ?_
      refine wpo_fieldAddr (o' := 1) J8 rfl rfl rfl ?_
      have k242 := ((k228.grown0 hN226.grw).gn hg235)
      refine wpo_store1 (v := .int .i64 x239) (cs' := #[.int .i64 (1 + k121), .int .i64 x239, .bool (decide (0 < k135)), .bool (decide (k142 = 0)), .bool (decide (k161 = 0))]) X0 rfl rfl rfl k242 (Nat.le_of_ble_eq_true rfl) rfl ?_
      intro w243 hS244
      have hb245 := low1 hb237 hS244.grw (by omega)
      refine wpo_nil ?_
      refine Yy ?_
      refine Xn ?_
      refine Xa ?_
      refine wpo_loadn (vs := [.int .i64 (1 + k121), .int .i64 x239, .bool (decide (0 < k135)), .bool (decide (k142 = 0)), .bool (decide (k161 = 0))]) Y1 rfl rfl (hS244.blk.rangeL 0 5 rfl) rfl ?_
      have k246 := (((k227.grown0 hN226.grw).gn hg235).gn hS244.grw)
      refine wpo_storen (vs := [.int .i64 (1 + k121), .int .i64 x239, .bool (decide (0 < k135)), .bool (decide (k142 = 0)), .bool (decide (k161 = 0))]) (cs' := #[.int .i64 (1 + k121), .int .i64 x239, .bool (decide (0 < k135)), .bool (decide (k142 = 0)), .bool (decide (k161 = 0))]) Y1 rfl rfl rfl (by simp [Value.oneCell']) k246 (Nat.le_of_ble_eq_true rfl) rfl ?_
      intro w247 hS248
      have hb249 := low1 hb245 hS248.grw (by omega)
      refine wpo_nil ?_
      refine Xj ?_
      have k250 := ((kR234.gn hS244.grw).gn hS248.grw)
      refine ⟨.agg #[.int .i64 (1 + k121), .int .i64 x239, .bool (decide (0 < k135)), .bool (decide (k142 = 0)), .bool (decide (k161 = 0))], resC rfl (resCell_mk (vs := [.int .i64 (1 + k121), .int .i64 x239, .bool (decide (0 < k135)), .bool (decide (k142 = 0)), .bool (decide (k161 = 0))]) Y1 rfl rfl (hS248.blk.rangeL 0 5 rfl)), ⟨1 + k121, x239, decide (0 < k135), decide (k142 = 0), decide (k161 = 0)⟩, (p + 1 + 1 + 1 + 1 + 1 + 1 + 1 + 1), rfl, show (-1 : Int) ≤ 1 + k121 by omega, show 1 + k121 ≤ (9 : Int) by omega, show (-1 : Int) ≤ x239 by omega, show x239 ≤ (9 : Int) by omega, by omega, by omega, k250, hb249⟩
     ·
      have h251 := of_decide_eq_false h222
      refine Xk ?_
      refine Yy ?_
      refine Xn ?_
      refine Xa ?_
      have k252 := (hS170.blk.gn hg177)
      refine wpo_loadn (vs := [.int .i64 (1 + k121), .int .i64 k128, .bool (decide (0 < k135)), .bool (decide (k142 = 0)), .bool (decide (k161 = 0))]) Y1 rfl rfl (k252.rangeL 0 5 rfl) rfl ?_
      have k253 := (((((k152.grown0 hN151.grw).gn hS155.grw).gn hg165).gn hS170.grw).gn hg177)
      refine wpo_storen (vs := [.int .i64 (1 + k121), .int .i64 k128, .bool (decide (0 < k135)), .bool (decide (k142 = 0)), .bool (decide (k161 = 0))]) (cs' := #[.int .i64 (1 + k121), .int .i64 k128, .bool (decide (0 < k135)), .bool (decide (k142 = 0)), .bool (decide (k161 = 0))]) Y1 rfl rfl rfl (by simp [Value.oneCell']) k253 (Nat.le_of_ble_eq_true rfl) rfl ?_
      intro w254 hS255
      have hb256 := low1 hb179 hS255.grw (by omega)
      refine wpo_nil ?_
      refine Xj ?_
      have k257 := (kR176.gn hS255.grw)
      refine ⟨.agg #[.int .i64 (1 + k121), .int .i64 k128, .bool (decide (0 < k135)), .bool (decide (k142 = 0)), .bool (decide (k161 = 0))], resC rfl (resCell_mk (vs := [.int .i64 (1 + k121), .int .i64 k128, .bool (decide (0 < k135)), .bool (decide (k142 = 0)), .bool (decide (k161 = 0))]) Y1 rfl rfl (hS255.blk.rangeL 0 5 rfl)), ⟨1 + k121, k128, decide (0 < k135), decide (k142 = 0), decide (k161 = 0)⟩, (p + 1 + 1 + 1 + 1 + 1 + 1 + 1), rfl, show (-1 : Int) ≤ 1 + k121 by omega, show 1 + k121 ≤ (9 : Int) by omega, show (-1 : Int) ≤ k128 by omega, show k128 ≤ (9 : Int) by omega, by omega, by omega, k257, hb256⟩
  ·
   have h258 := Y9 h157
   have h259 := of_decide_eq_true h258
   refine Xk ?_
   refine Xn ?_
   refine Xi ?_
   refine Xa ?_
   refine wpo_move (v := .pointer (some ⟨R, 0, none⟩)) rfl rfl ?_
   have k260 := ((kR145.grown0 hN151.grw).gn hS155.grw)
   refine Xh (vs := [.pointer (some ⟨R, 0, none⟩), .int .i64 40]) Qb (Xb rfl (Xb rfl Xg)) rfl (Yn (p + 1 + 1 + 1 + 1 + 1) 40 (by omega) _ R bs _ _ _ k260 (by omega) (SlLt.low1 hs hb156 hlo) (by first | exact hb | exact fun b h => hb b (List.mem_of_mem_take h)) (by first | omega | (rw [List.length_take]; omega))) ?_
   rintro _ w266 ⟨k261, rfl, hk262, hk263, kR264, hg265⟩
   have hb267 := Xf hb156 hg265
   refine wpo_nil ?_
   refine Xv ?_
   refine Xa ?_
   refine wpo_eql (q := decide (k261 = 0)) rfl rfl rfl rfl ?_
   refine wpo_assign (v := .bool (decide (k261 = 0))) rfl rfl ?_
   refine wpo_nil ?_
   refine Xq rfl (fun h268 => ?_) (fun h268 => ?_)
   ·
    have h269 := of_decide_eq_true h268
    refine Xl ?_
    refine wpo_fieldAddr (o' := 4) Wh rfl rfl rfl ?_
    have k270 := (hS155.blk.gn hg265)
    refine wpo_store1 (v := .bool true) (cs' := #[.int .i64 (1 + k121), .int .i64 k128, .bool (decide (0 < k135)), .bool (decide (k142 = 0)), .bool true]) Vx rfl rfl rfl k270 (Nat.le_of_ble_eq_true rfl) rfl ?_
    intro w271 hS272
    have hb273 := low1 hb267 hS272.grw (by omega)
    refine wpo_nil ?_
    refine Yy ?_
    refine Xn ?_
    refine Xa ?_
    refine wpo_loadn (vs := [.int .i64 (1 + k121), .int .i64 k128, .bool (decide (0 < k135)), .bool (decide (k142 = 0)), .bool true]) Y1 rfl rfl (hS272.blk.rangeL 0 5 rfl) rfl ?_
    have k274 := ((((k152.grown0 hN151.grw).gn hS155.grw).gn hg265).gn hS272.grw)
    refine wpo_storen (vs := [.int .i64 (1 + k121), .int .i64 k128, .bool (decide (0 < k135)), .bool (decide (k142 = 0)), .bool true]) (cs' := #[.int .i64 (1 + k121), .int .i64 k128, .bool (decide (0 < k135)), .bool (decide (k142 = 0)), .bool true]) Y1 rfl rfl rfl (by simp [Value.oneCell']) k274 (Nat.le_of_ble_eq_true rfl) rfl ?_
    intro w275 hS276
    have hb277 := low1 hb273 hS276.grw (by omega)
    refine wpo_nil ?_
    refine Xj ?_
    have k278 := ((kR264.gn hS272.grw).gn hS276.grw)
    refine ⟨.agg #[.int .i64 (1 + k121), .int .i64 k128, .bool (decide (0 < k135)), .bool (decide (k142 = 0)), .bool true], resC rfl (resCell_mk (vs := [.int .i64 (1 + k121), .int .i64 k128, .bool (decide (0 < k135)), .bool (decide (k142 = 0)), .bool true]) Y1 rfl rfl (hS276.blk.rangeL 0 5 rfl)), ⟨1 + k121, k128, decide (0 < k135), decide (k142 = 0), true⟩, (p + 1 + 1 + 1 + 1 + 1 + 1), rfl, show (-1 : Int) ≤ 1 + k121 by omega, show 1 + k121 ≤ (9 : Int) by omega, show (-1 : Int) ≤ k128 by omega, show k128 ≤ (9 : Int) by omega, by omega, by omega, k278, hb277⟩
   ·
    have h279 := of_decide_eq_false h268
    refine Xa ?_
    refine wpo_eql (q := decide (k261 = 1)) rfl rfl rfl rfl ?_
    refine wpo_assign (v := .bool (decide (k261 = 1))) rfl rfl ?_
    refine wpo_nil ?_
    refine Xq rfl (fun h280 => ?_) (fun h280 => ?_)
    ·
     have h281 := of_decide_eq_true h280
     refine Xl ?_
     refine wpo_buildSlice (ps := [(0, .int .i64 0), (1, .int .i64 9), (2, .int .i64 (-1))]) (e := 3) (cs := (([0, 9, (-1)] : List Int).flatMap icell).toArray) (Xm rfl (Xm rfl (Xm rfl Xw))) (fun _ => by kernel_rfl) rfl ?_
     intro B282 w283 hN284
     have hlB282 := X1 hN284 hb267
     have lt_R_B282 := Xo hN284 (kR264).lt
     have k285 := (((k152.grown0 hN151.grw).gn hS155.grw).gn hg265)
     have lt_B101_B282 := Xo hN284 (k285).lt
     have k286 := (hS155.blk.gn hg265)
     have lt_B149_B282 := Xo hN284 (k286).lt
     have hb287 := low0 hb267 hN284.grw
     refine wpo_move (v := .pointer (some ⟨R, 0, none⟩)) rfl rfl ?_
     have k288 := (kR264.grown0 hN284.grw)
     refine Xh (vs := [.pointer (some ⟨R, 0, none⟩), .int .i64 3]) Qb (Xb rfl (Xb rfl Xg)) rfl (Yn (p + 1 + 1 + 1 + 1 + 1 + 1) 3 (by omega) _ R bs _ _ _ k288 (by omega) (SlLt.low1 hs hb287 hlo) (by first | exact hb | exact fun b h => hb b (List.mem_of_mem_take h)) (by first | omega | (rw [List.length_take]; omega))) ?_
     rintro _ w294 ⟨k289, rfl, hk290, hk291, kR292, hg293⟩
     have hb295 := Xf hb287 hg293
     refine wpo_indexAddr (o' := (k289).toNat * 1) Km rfl rfl (by omega) (by omega) (by omega) rfl ?_
     have k296 := (hN284.blk.gn hg293)
     obtain ⟨x297, hx298⟩ := Qc (l := ([0, 9, (-1)] : List Int)) (i := (k289).toNat) (show (k289).toNat < 3 by omega)
     have hm299 := List.mem_of_getElem? hx298
     simp only [List.mem_cons, List.not_mem_nil, or_false] at hm299
     refine wpo_load1 (v := .int .i64 x297) X0 rfl ((Jl Yb k296 hx298) 0 _ rfl) rfl ?_
     refine wpo_fieldAddr (o' := 0) Qx rfl rfl rfl ?_
     have k300 := ((k286.grown0 hN284.grw).gn hg293)
     refine wpo_store1 (v := .int .i64 x297) (cs' := #[.int .i64 x297, .int .i64 k128, .bool (decide (0 < k135)), .bool (decide (k142 = 0)), .bool false]) X0 rfl rfl rfl k300 (Nat.le_of_ble_eq_true rfl) rfl ?_
     intro w301 hS302
     have hb303 := low1 hb295 hS302.grw (by omega)
     refine wpo_nil ?_
     refine Yy ?_
     refine Xn ?_
     refine Xa ?_
     refine wpo_loadn (vs := [.int .i64 x297, .int .i64 k128, .bool (decide (0 < k135)), .bool (decide (k142 = 0)), .bool false]) Y1 rfl rfl (hS302.blk.rangeL 0 5 rfl) rfl ?_
     have k304 := (((k285.grown0 hN284.grw).gn hg293).gn hS302.grw)
     refine wpo_storen (vs := [.int .i64 x297, .int .i64 k128, .bool (decide (0 < k135)), .bool (decide (k142 = 0)), .bool false]) (cs' := #[.int .i64 x297, .int .i64 k128, .bool (decide (0 < k135)), .bool (decide (k142 = 0)), .bool false]) Y1 rfl rfl rfl (by simp [Value.oneCell']) k304 (Nat.le_of_ble_eq_true rfl) rfl ?_
     intro w305 hS306
     have hb307 := low1 hb303 hS306.grw (by omega)
     refine wpo_nil ?_
     refine Xj ?_
     have k308 := ((kR292.gn hS302.grw).gn hS306.grw)
     refine ⟨.agg #[.int .i64 x297, .int .i64 k128, .bool (decide (0 < k135)), .bool (decide (k142 = 0)), .bool false], resC rfl (resCell_mk (vs := [.int .i64 x297, .int .i64 k128, .bool (decide (0 < k135)), .bool (decide (k142 = 0)), .bool false]) Y1 rfl rfl (hS306.blk.rangeL 0 5 rfl)), ⟨x297, k128, decide (0 < k135), decide (k142 = 0), false⟩, (p + 1 + 1 + 1 + 1 + 1 + 1 + 1), rfl, show (-1 : Int) ≤ x297 by omega, show x297 ≤ (9 : Int) by omega, show (-1 : Int) ≤ k128 by omega, show k128 ≤ (9 : Int) by omega, by omega, by omega, k308, hb307⟩
    ·
     have h309 := of_decide_eq_false h280
     refine Xa ?_
     refine wpo_eql (q := decide (k261 = 2)) rfl rfl rfl rfl ?_
     refine wpo_assign (v := .bool (decide (k261 = 2))) rfl rfl ?_
     refine wpo_nil ?_
     refine Xq rfl (fun h310 => ?_) (fun h310 => ?_)
     ·
      have h311 := of_decide_eq_true h310
      refine Xl ?_
      refine wpo_buildSlice (ps := [(0, .int .i64 (-1)), (1, .int .i64 5), (2, .int .i64 6)]) (e := 3) (cs := (([(-1), 5, 6] : List Int).flatMap icell).toArray) (Xm rfl (Xm rfl (Xm rfl Xw))) (fun _ => by kernel_rfl) rfl ?_
      intro B312 w313 hN314
      have hlB312 := X1 hN314 hb267
      have lt_R_B312 := Xo hN314 (kR264).lt
      have k315 := (((k152.grown0 hN151.grw).gn hS155.grw).gn hg265)
      have lt_B101_B312 := Xo hN314 (k315).lt
      have k316 := (hS155.blk.gn hg265)
      have lt_B149_B312 := Xo hN314 (k316).lt
      have hb317 := low0 hb267 hN314.grw
      refine wpo_move (v := .pointer (some ⟨R, 0, none⟩)) rfl rfl ?_
      have k318 := (kR264.grown0 hN314.grw)
      refine Xh (vs := [.pointer (some ⟨R, 0, none⟩), .int .i64 3]) Qb (Xb rfl (Xb rfl Xg)) rfl (Yn (p + 1 + 1 + 1 + 1 + 1 + 1) 3 (by omega) _ R bs _ _ _ k318 (by omega) (SlLt.low1 hs hb317 hlo) (by first | exact hb | exact fun b h => hb b (List.mem_of_mem_take h)) (by first | omega | (rw [List.length_take]; omega))) ?_
      rintro _ w324 ⟨k319, rfl, hk320, hk321, kR322, hg323⟩
      have hb325 := Xf hb317 hg323
      refine wpo_indexAddr (o' := (k319).toNat * 1) Km rfl rfl (by omega) (by omega) (by omega) rfl ?_
      have k326 := (hN314.blk.gn hg323)
      obtain ⟨x327, hx328⟩ := Qc (l := ([(-1), 5, 6] : List Int)) (i := (k319).toNat) (show (k319).toNat < 3 by omega)
      have hm329 := List.mem_of_getElem? hx328
      simp only [List.mem_cons, List.not_mem_nil, or_false] at hm329
      refine wpo_load1 (v := .int .i64 x327) X0 rfl ((Jl Yb k326 hx328) 0 _ rfl) rfl ?_
      refine wpo_fieldAddr (o' := 1) J8 rfl rfl rfl ?_
      have k330 := ((k316.grown0 hN314.grw).gn hg323)
      refine wpo_store1 (v := .int .i64 x327) (cs' := #[.int .i64 (1 + k121), .int .i64 x327, .bool (decide (0 < k135)), .bool (decide (k142 = 0)), .bool false]) X0 rfl rfl rfl k330 (Nat.le_of_ble_eq_true rfl) rfl ?_
      intro w331 hS332
      have hb333 := low1 hb325 hS332.grw (by omega)
      refine wpo_nil ?_
      refine Yy ?_
      refine Xn ?_
      refine Xa ?_
      refine wpo_loadn (vs := [.int .i64 (1 + k121), .int .i64 x327, .bool (decide (0 < k135)), .bool (decide (k142 = 0)), .bool false]) Y1 rfl rfl (hS332.blk.rangeL 0 5 rfl) rfl ?_
      have k334 := (((k315.grown0 hN314.grw).gn hg323).gn hS332.grw)
      refine wpo_storen (vs := [.int .i64 (1 + k121), .int .i64 x327, .bool (decide (0 < k135)), .bool (decide (k142 = 0)), .bool false]) (cs' := #[.int .i64 (1 + k121), .int .i64 x327, .bool (decide (0 < k135)), .bool (decide (k142 = 0)), .bool false]) Y1 rfl rfl rfl (by simp [Value.oneCell']) k334 (Nat.le_of_ble_eq_true rfl) rfl ?_
      intro w335 hS336
      have hb337 := low1 hb333 hS336.grw (by omega)
      refine wpo_nil ?_
      refine Xj ?_
      have k338 := ((kR322.gn hS332.grw).gn hS336.grw)
      refine ⟨.agg #[.int .i64 (1 + k121), .int .i64 x327, .bool (decide (0 < k135)), .bool (decide (k142 = 0)), .bool false], resC rfl (resCell_mk (vs := [.int .i64 (1 + k121), .int .i64 x327, .bool (decide (0 < k135)), .bool (decide (k142 = 0)), .bool false]) Y1 rfl rfl (hS336.blk.rangeL 0 5 rfl)), ⟨1 + k121, x327, decide (0 < k135), decide (k142 = 0), false⟩, (p + 1 + 1 + 1 + 1 + 1 + 1 + 1), rfl, show (-1 : Int) ≤ 1 + k121 by omega, show 1 + k121 ≤ (9 : Int) by omega, show (-1 : Int) ≤ x327 by omega, show x327 ≤ (9 : Int) by omega, by omega, by omega, k338, hb337⟩
     ·
      have h339 := of_decide_eq_false h310
      refine Xk ?_
      refine Yy ?_
      refine Xn ?_
      refine Xa ?_
      have k340 := (hS155.blk.gn hg265)
      refine wpo_loadn (vs := [.int .i64 (1 + k121), .int .i64 k128, .bool (decide (0 < k135)), .bool (decide (k142 = 0)), .bool false]) Y1 rfl rfl (k340.rangeL 0 5 rfl) rfl ?_
      have k341 := (((k152.grown0 hN151.grw).gn hS155.grw).gn hg265)
      refine wpo_storen (vs := [.int .i64 (1 + k121), .int .i64 k128, .bool (decide (0 < k135)), .bool (decide (k142 = 0)), .bool false]) (cs' := #[.int .i64 (1 + k121), .int .i64 k128, .bool (decide (0 < k135)), .bool (decide (k142 = 0)), .bool false]) Y1 rfl rfl rfl (by simp [Value.oneCell']) k341 (Nat.le_of_ble_eq_true rfl) rfl ?_
      intro w342 hS343
      have hb344 := low1 hb267 hS343.grw (by omega)
      refine wpo_nil ?_
      refine Xj ?_
      have k345 := (kR264.gn hS343.grw)
      refine ⟨.agg #[.int .i64 (1 + k121), .int .i64 k128, .bool (decide (0 < k135)), .bool (decide (k142 = 0)), .bool false], resC rfl (resCell_mk (vs := [.int .i64 (1 + k121), .int .i64 k128, .bool (decide (0 < k135)), .bool (decide (k142 = 0)), .bool false]) Y1 rfl rfl (hS343.blk.rangeL 0 5 rfl)), ⟨1 + k121, k128, decide (0 < k135), decide (k142 = 0), false⟩, (p + 1 + 1 + 1 + 1 + 1 + 1), rfl, show (-1 : Int) ≤ 1 + k121 by omega, show 1 + k121 ≤ (9 : Int) by omega, show (-1 : Int) ≤ k128 by omega, show k128 ≤ (9 : Int) by omega, by omega, by omega, k345, hb344⟩
theorem Bw [Comp] (bs : List Int) (a : Option Addr) (c : Nat) (w : World) (hn : bs.length ≤ 1048576) (hc : bs.length ≤ c) : CallsR Try.prog 34 #[.slice a bs.length c] w (fun v w' => ∃ R : Nat, v = .pointer (some ⟨R, 0, none⟩) ∧ w.heap.size ≤ R ∧ Blk w' R 97 #[.slice a (bs.take 2000).length c, .int .i64 0] ∧ w.grownBy w' none) := by
 refine Xp (n := 11) Try.func34 rfl Try.ntmps34 rfl ?_
 have hb0 := World.grownBy.refl w none
 refine Xa ?_
 refine wpo_assign (v := .pointer none) rfl rfl ?_
 refine wpo_nil ?_
 refine Xi ?_
 refine Xa ?_
 refine wpo_move (v := .slice a bs.length c) rfl rfl ?_
 refine wpo_len (by kernel_rfl) rfl rfl ?_
 refine wpo_gtr (q := decide (2000 < (bs.length : Int))) rfl rfl rfl rfl ?_
 refine wpo_nil ?_
 refine Xq rfl (fun h101 => ?_) (fun h101 => ?_)
 ·
  have h102 := of_decide_eq_true h101
  refine Xl ?_
  refine wpo_move (v := .slice a bs.length c) rfl rfl ?_
  refine wpo_cut (e := 5) (sz := 1) (h := 2000) (by kernel_rfl) (by kernel_rfl) rfl rfl (by omega) rfl ?_
  refine wpo_assign (v := .slice a 2000 c) rfl rfl ?_
  refine wpo_nil ?_
  refine Xn ?_
  refine Xa ?_
  refine wpo_move (v := .slice a 2000 c) rfl rfl ?_
  refine wpo_build (ps := [(0, .slice a 2000 c)]) (v := .agg #[.slice a 2000 c, .int .i64 0]) (Xm rfl Xw) (fun _ => by kernel_rfl) rfl ?_
  refine wpo_box (v := .agg #[.slice a 2000 c, .int .i64 0]) (cs := #[.slice a 2000 c, .int .i64 0]) rfl rfl rfl ?_
  intro B103 w104 hN105
  have hlB103 := X1 hN105 hb0
  have hb106 := low0 hb0 hN105.grw
  refine wpo_assign (v := .pointer (some ⟨B103, 0, none⟩)) rfl rfl ?_
  refine wpo_nil ?_
  refine Xj ?_
  have hlen : 2000 = (bs.take 2000).length := by rw [List.length_take]; omega
  have kk := hN105.blk
  rw [hlen] at kk
  refine ⟨.pointer (some ⟨B103, 0, none⟩), res1 rfl rfl, B103, rfl, hlB103, kk, hb106⟩
 ·
  have h107 := of_decide_eq_false h101
  refine Xk ?_
  refine Xn ?_
  refine Xa ?_
  refine wpo_move (v := .slice a bs.length c) rfl rfl ?_
  refine wpo_build (ps := [(0, .slice a bs.length c)]) (v := .agg #[.slice a bs.length c, .int .i64 0]) (Xm rfl Xw) (fun _ => by kernel_rfl) rfl ?_
  refine wpo_box (v := .agg #[.slice a bs.length c, .int .i64 0]) (cs := #[.slice a bs.length c, .int .i64 0]) rfl rfl rfl ?_
  intro B108 w109 hN110
  have hlB108 := X1 hN110 hb0
  have hb111 := low0 hb0 hN110.grw
  refine wpo_assign (v := .pointer (some ⟨B108, 0, none⟩)) rfl rfl ?_
  refine wpo_nil ?_
  refine Xj ?_
  have hlen : bs.length = (bs.take 2000).length := by rw [List.length_take]; omega
  have kk := hN110.blk
  rw [hlen] at kk
  refine ⟨.pointer (some ⟨B108, 0, none⟩), res1 rfl rfl, B108, rfl, hlB108, kk, hb111⟩
end Go.Dw.J
end
section
namespace Go.Dw.J
open Go.RowKit Go.Dw Go.Proofs
set_option linter.unusedSectionVars false
set_option maxRecDepth 100000
set_option maxHeartbeats 4000000
set_option linter.unusedSimpArgs false
set_option linter.unusedVariables false
theorem M1 : arrTy Try.prog 77 = some (4, 74, 5) := by kernel_rfl
theorem X9 : fieldOff Try.prog 35 0 = some 0 := by kernel_rfl
theorem J7 : fieldOff Try.prog 35 1 = some 1 := by kernel_rfl
theorem Qw : fieldOff Try.prog 35 2 = some 3 := by kernel_rfl
theorem Q4 : fieldOff Try.prog 35 3 = some 4 := by kernel_rfl
theorem Y2 : fieldOff Try.prog 35 4 = some 5 := by kernel_rfl
theorem Qk : fieldOff Try.prog 35 5 = some 6 := by kernel_rfl
theorem Jj : fieldOff Try.prog 35 6 = some 7 := by kernel_rfl
theorem V3 : goFn Try.prog 50 = true := by kernel_rfl
theorem Is : goFn Try.prog 51 = true := by kernel_rfl
theorem Iu : goFn Try.prog 52 = true := by kernel_rfl
theorem Iv : goFn Try.prog 53 = true := by kernel_rfl
theorem Iw : goFn Try.prog 54 = true := by kernel_rfl
theorem Iy : goFn Try.prog 55 = true := by kernel_rfl
theorem Et : goFn Try.prog 94 = true := by kernel_rfl
theorem Hg : goFn Try.prog 95 = true := by kernel_rfl
theorem I3 : goFn Try.prog 97 = true := by kernel_rfl
theorem Jc : oneTy Try.prog 32 = true := by kernel_rfl
theorem Jo : oneTy Try.prog 33 = true := by kernel_rfl
theorem Xx : rowTy Try.prog 35 = some 8 := by kernel_rfl
theorem Oa : rowTy Try.prog 77 = some 20 := by kernel_rfl
theorem Cx [Comp] (m : MTh) (w : World) : CallsR Try.prog 51 #[.agg #[.int .i64 m.t.kind, .int .i64 m.t.lab.s, .int .i64 m.t.lab.v, .int .i64 m.t.ve, .int .i64 m.t.num, .slice m.sa m.t.slots.length m.sc, .slice m.qa m.t.queue.length m.qc, .int .i64 m.t.to]] w (fun v w' => v = .bool (versOk m.t) ∧ w.grownBy w' none) := by
 refine Xp (n := 15) Try.func51 rfl Try.ntmps51 rfl ?_
 have hb0 := World.grownBy.refl w none
 refine Xa ?_
 refine wpo_box (v := .agg #[.int .i64 m.t.kind, .int .i64 m.t.lab.s, .int .i64 m.t.lab.v, .int .i64 m.t.ve, .int .i64 m.t.num, .slice m.sa m.t.slots.length m.sc, .slice m.qa m.t.queue.length m.qc, .int .i64 m.t.to]) (cs := #[.int .i64 m.t.kind, .int .i64 m.t.lab.s, .int .i64 m.t.lab.v, .int .i64 m.t.ve, .int .i64 m.t.num, .slice m.sa m.t.slots.length m.sc, .slice m.qa m.t.queue.length m.qc, .int .i64 m.t.to]) rfl rfl rfl ?_
 intro B101 w102 hN103
 have hlB101 := X1 hN103 hb0
 have hb104 := low0 hb0 hN103.grw
 refine wpo_assign (v := .bool false) rfl rfl ?_
 refine wpo_nil ?_
 refine Xi ?_
 refine Xa ?_
 refine wpo_fieldAddr (o' := 0) X9 rfl rfl rfl ?_
 refine wpo_load1 (v := .int .i64 m.t.kind) X0 rfl (hN103.blk.cell rfl) rfl ?_
 refine wpo_nil ?_
 refine Xv ?_
 refine Xi ?_
 refine Xa ?_
 refine wpo_eql (q := decide (m.t.kind = 1)) rfl rfl rfl rfl ?_
 refine wpo_assign (v := .bool (decide (m.t.kind = 1))) rfl rfl ?_
 refine wpo_nil ?_
 refine Xq rfl (fun h105 => ?_) (fun h105 => ?_)
 ·
  have h106 := of_decide_eq_true h105
  refine Xk ?_
  refine Xn ?_
  refine X8 rfl h105 ?_
  refine Xa ?_
  refine wpo_fieldAddr (o' := 3) Qw rfl rfl rfl ?_
  refine wpo_load1 (v := .int .i64 m.t.ve) X0 rfl (hN103.blk.cell rfl) rfl ?_
  refine Xh (vs := [.int .i64 m.t.ve, .int .i64 0, .int .i64 5]) V3 (Xb rfl (Xb rfl (Xb rfl Xg))) rfl (Jh m.t.ve 0 5 _) ?_
  rintro _ w107 ⟨rfl, hg108⟩
  have hb109 := low0 hb104 hg108
  refine wpo_assign (v := .bool (inR m.t.ve 0 5)) rfl rfl ?_
  refine wpo_nil ?_
  refine Xj ?_
  refine Qd ?_
  refine X7 ?_
  refine ⟨.bool (inR m.t.ve 0 5), res1 rfl rfl, ?_, hb109⟩
  first | (simp [versOk, h106]; done) | (simp [versOk, h106]; omega) | (simp [versOk, h106]; intros; omega)
 ·
  have h110 := of_decide_eq_false h105
  refine Xa ?_
  refine wpo_eql (q := decide (m.t.kind = 2)) rfl rfl rfl rfl ?_
  refine wpo_assign (v := .bool (decide (m.t.kind = 2))) rfl rfl ?_
  refine wpo_nil ?_
  refine Xq rfl (fun h111 => ?_) (fun h111 => ?_)
  ·
   have h112 := of_decide_eq_true h111
   refine Xk ?_
   refine Xn ?_
   refine X8 rfl h111 ?_
   refine Xa ?_
   refine wpo_fieldAddr (o' := 3) Qw rfl rfl rfl ?_
   refine wpo_load1 (v := .int .i64 m.t.ve) X0 rfl (hN103.blk.cell rfl) rfl ?_
   refine Xh (vs := [.int .i64 m.t.ve, .int .i64 0, .int .i64 5]) V3 (Xb rfl (Xb rfl (Xb rfl Xg))) rfl (Jh m.t.ve 0 5 _) ?_
   rintro _ w113 ⟨rfl, hg114⟩
   have hb115 := low0 hb104 hg114
   refine wpo_assign (v := .bool (inR m.t.ve 0 5)) rfl rfl ?_
   refine wpo_nil ?_
   refine Xj ?_
   refine Qd ?_
   refine X7 ?_
   refine ⟨.bool (inR m.t.ve 0 5), res1 rfl rfl, ?_, hb115⟩
   first | (simp [versOk, h110, h112]; done) | (simp [versOk, h110, h112]; omega) | (simp [versOk, h110, h112]; intros; omega)
  ·
   have h116 := of_decide_eq_false h111
   refine Xl ?_
   refine wpo_eql (q := decide (m.t.kind = 4)) rfl rfl rfl rfl ?_
   refine wpo_assign (v := .bool (decide (m.t.kind = 4))) rfl rfl ?_
   refine wpo_nil ?_
   refine Xn ?_
   refine Xq rfl (fun h117 => ?_) (fun h117 => ?_)
   ·
    have h118 := of_decide_eq_true h117
    refine Xa ?_
    refine wpo_fieldAddr (o' := 3) Qw rfl rfl rfl ?_
    refine wpo_load1 (v := .int .i64 m.t.ve) X0 rfl (hN103.blk.cell rfl) rfl ?_
    refine Xh (vs := [.int .i64 m.t.ve, .int .i64 0, .int .i64 5]) V3 (Xb rfl (Xb rfl (Xb rfl Xg))) rfl (Jh m.t.ve 0 5 _) ?_
    rintro _ w119 ⟨rfl, hg120⟩
    have hb121 := low0 hb104 hg120
    refine wpo_assign (v := .bool (inR m.t.ve 0 5)) rfl rfl ?_
    refine wpo_nil ?_
    refine Xj ?_
    refine Qd ?_
    refine X7 ?_
    refine ⟨.bool (inR m.t.ve 0 5), res1 rfl rfl, ?_, hb121⟩
    first | (simp [versOk, h110, h116, h118]; done) | (simp [versOk, h110, h116, h118]; omega) | (simp [versOk, h110, h116, h118]; intros; omega)
   ·
    have h122 := of_decide_eq_false h117
    refine Xk ?_
    refine Yy ?_
    refine Xn ?_
    refine Xa ?_
    refine wpo_fieldAddr (o' := 3) Qw rfl rfl rfl ?_
    refine wpo_load1 (v := .int .i64 m.t.ve) X0 rfl (hN103.blk.cell rfl) rfl ?_
    refine wpo_eql (q := decide (m.t.ve = 0)) rfl rfl rfl rfl ?_
    refine wpo_assign (v := .bool (decide (m.t.ve = 0))) rfl rfl ?_
    refine wpo_nil ?_
    refine Xj ?_
    refine ⟨.bool (decide (m.t.ve = 0)), res1 rfl rfl, ?_, hb104⟩
    first | (simp [versOk, h110, h116, h122]; done) | (simp [versOk, h110, h116, h122]; omega) | (simp [versOk, h110, h116, h122]; intros; omega)
theorem Do [Comp] (m : MTh) (w : World) : CallsR Try.prog 52 #[.agg #[.int .i64 m.t.kind, .int .i64 m.t.lab.s, .int .i64 m.t.lab.v, .int .i64 m.t.ve, .int .i64 m.t.num, .slice m.sa m.t.slots.length m.sc, .slice m.qa m.t.queue.length m.qc, .int .i64 m.t.to]] w (fun v w' => v = .bool (numOk m.t) ∧ w.grownBy w' none) := by
 refine Xp (n := 19) Try.func52 rfl Try.ntmps52 rfl ?_
 have hb0 := World.grownBy.refl w none
 refine Xa ?_
 refine wpo_box (v := .agg #[.int .i64 m.t.kind, .int .i64 m.t.lab.s, .int .i64 m.t.lab.v, .int .i64 m.t.ve, .int .i64 m.t.num, .slice m.sa m.t.slots.length m.sc, .slice m.qa m.t.queue.length m.qc, .int .i64 m.t.to]) (cs := #[.int .i64 m.t.kind, .int .i64 m.t.lab.s, .int .i64 m.t.lab.v, .int .i64 m.t.ve, .int .i64 m.t.num, .slice m.sa m.t.slots.length m.sc, .slice m.qa m.t.queue.length m.qc, .int .i64 m.t.to]) rfl rfl rfl ?_
 intro B101 w102 hN103
 have hlB101 := X1 hN103 hb0
 have hb104 := low0 hb0 hN103.grw
 refine wpo_assign (v := .bool false) rfl rfl ?_
 refine wpo_nil ?_
 refine Xi ?_
 refine Xa ?_
 refine wpo_fieldAddr (o' := 0) X9 rfl rfl rfl ?_
 refine wpo_load1 (v := .int .i64 m.t.kind) X0 rfl (hN103.blk.cell rfl) rfl ?_
 refine wpo_nil ?_
 refine Xv ?_
 refine Xi ?_
 refine Xa ?_
 refine wpo_eql (q := decide (m.t.kind = 1)) rfl rfl rfl rfl ?_
 refine wpo_assign (v := .bool (decide (m.t.kind = 1))) rfl rfl ?_
 refine wpo_nil ?_
 refine Xq rfl (fun h105 => ?_) (fun h105 => ?_)
 ·
  have h106 := of_decide_eq_true h105
  refine Xk ?_
  refine Xn ?_
  refine X8 rfl h105 ?_
  refine Xa ?_
  refine wpo_fieldAddr (o' := 4) Q4 rfl rfl rfl ?_
  refine wpo_load1 (v := .int .i64 m.t.num) X0 rfl (hN103.blk.cell rfl) rfl ?_
  refine Xh (vs := [.int .i64 m.t.num, .int .i64 0, .int .i64 99]) V3 (Xb rfl (Xb rfl (Xb rfl Xg))) rfl (Jh m.t.num 0 99 _) ?_
  rintro _ w107 ⟨rfl, hg108⟩
  have hb109 := low0 hb104 hg108
  refine wpo_assign (v := .bool (inR m.t.num 0 99)) rfl rfl ?_
  refine wpo_nil ?_
  refine Xj ?_
  refine Qd ?_
  refine X7 ?_
  refine ⟨.bool (inR m.t.num 0 99), res1 rfl rfl, ?_, hb109⟩
  first | (simp [numOk, h106]; done) | (simp [numOk, h106]; omega) | (simp [numOk, h106]; intros; omega)
 ·
  have h110 := of_decide_eq_false h105
  refine Xl ?_
  refine wpo_eql (q := decide (m.t.kind = 5)) rfl rfl rfl rfl ?_
  refine wpo_assign (v := .bool (decide (m.t.kind = 5))) rfl rfl ?_
  refine wpo_nil ?_
  refine Xn ?_
  refine Xq rfl (fun h111 => ?_) (fun h111 => ?_)
  ·
   have h112 := of_decide_eq_true h111
   refine Xa ?_
   refine wpo_fieldAddr (o' := 4) Q4 rfl rfl rfl ?_
   refine wpo_load1 (v := .int .i64 m.t.num) X0 rfl (hN103.blk.cell rfl) rfl ?_
   refine Xh (vs := [.int .i64 m.t.num, .int .i64 0, .int .i64 99]) V3 (Xb rfl (Xb rfl (Xb rfl Xg))) rfl (Jh m.t.num 0 99 _) ?_
   rintro _ w113 ⟨rfl, hg114⟩
   have hb115 := low0 hb104 hg114
   refine wpo_assign (v := .bool (inR m.t.num 0 99)) rfl rfl ?_
   refine wpo_nil ?_
   refine Xj ?_
   refine Qd ?_
   refine X7 ?_
   refine ⟨.bool (inR m.t.num 0 99), res1 rfl rfl, ?_, hb115⟩
   first | (simp [numOk, h110, h112]; done) | (simp [numOk, h110, h112]; omega) | (simp [numOk, h110, h112]; intros; omega)
  ·
   have h116 := of_decide_eq_false h111
   refine Xa ?_
   refine wpo_eql (q := decide (m.t.kind = 3)) rfl rfl rfl rfl ?_
   refine wpo_assign (v := .bool (decide (m.t.kind = 3))) rfl rfl ?_
   refine wpo_nil ?_
   refine Xq rfl (fun h117 => ?_) (fun h117 => ?_)
   ·
    have h118 := of_decide_eq_true h117
    refine Xa ?_
    refine wpo_fieldAddr (o' := 4) Q4 rfl rfl rfl ?_
    refine wpo_load1 (v := .int .i64 m.t.num) X0 rfl (hN103.blk.cell rfl) rfl ?_
    refine Xh (vs := [.int .i64 m.t.num, .int .i64 (-4), .int .i64 99]) V3 (Xb rfl (Xb rfl (Xb rfl Xg))) rfl (Jh m.t.num (-4) 99 _) ?_
    rintro _ w119 ⟨rfl, hg120⟩
    have hb121 := low0 hb104 hg120
    refine wpo_assign (v := .bool (inR m.t.num (-4) 99)) rfl rfl ?_
    refine wpo_nil ?_
    refine Xj ?_
    refine Qd ?_
    refine X7 ?_
    refine ⟨.bool (inR m.t.num (-4) 99), res1 rfl rfl, ?_, hb121⟩
    first | (simp [numOk, h110, h116, h118]; done) | (simp [numOk, h110, h116, h118]; omega) | (simp [numOk, h110, h116, h118]; intros; omega)
   ·
    have h122 := of_decide_eq_false h117
    refine Xk ?_
    refine Yy ?_
    refine Xn ?_
    refine Xa ?_
    refine wpo_fieldAddr (o' := 4) Q4 rfl rfl rfl ?_
    refine wpo_load1 (v := .int .i64 m.t.num) X0 rfl (hN103.blk.cell rfl) rfl ?_
    refine wpo_eql (q := decide (m.t.num = 0)) rfl rfl rfl rfl ?_
    refine wpo_assign (v := .bool (decide (m.t.num = 0))) rfl rfl ?_
    refine wpo_nil ?_
    refine Xj ?_
    refine ⟨.bool (decide (m.t.num = 0)), res1 rfl rfl, ?_, hb104⟩
    first | (simp [numOk, h110, h116, h122]; done) | (simp [numOk, h110, h116, h122]; omega) | (simp [numOk, h110, h116, h122]; intros; omega)
theorem So [Comp] (m : MTh) (w : World) : CallsR Try.prog 55 #[.agg #[.int .i64 m.t.kind, .int .i64 m.t.lab.s, .int .i64 m.t.lab.v, .int .i64 m.t.ve, .int .i64 m.t.num, .slice m.sa m.t.slots.length m.sc, .slice m.qa m.t.queue.length m.qc, .int .i64 m.t.to]] w (fun v w' => v = .bool (targetOk m.t) ∧ w.grownBy w' none) := by
 refine Xp (n := 12) Try.func55 rfl Try.ntmps55 rfl ?_
 have hb0 := World.grownBy.refl w none
 refine Xa ?_
 refine wpo_box (v := .agg #[.int .i64 m.t.kind, .int .i64 m.t.lab.s, .int .i64 m.t.lab.v, .int .i64 m.t.ve, .int .i64 m.t.num, .slice m.sa m.t.slots.length m.sc, .slice m.qa m.t.queue.length m.qc, .int .i64 m.t.to]) (cs := #[.int .i64 m.t.kind, .int .i64 m.t.lab.s, .int .i64 m.t.lab.v, .int .i64 m.t.ve, .int .i64 m.t.num, .slice m.sa m.t.slots.length m.sc, .slice m.qa m.t.queue.length m.qc, .int .i64 m.t.to]) rfl rfl rfl ?_
 intro B101 w102 hN103
 have hlB101 := X1 hN103 hb0
 have hb104 := low0 hb0 hN103.grw
 refine wpo_assign (v := .bool false) rfl rfl ?_
 refine wpo_nil ?_
 refine Xi ?_
 refine Xa ?_
 refine wpo_fieldAddr (o' := 0) X9 rfl rfl rfl ?_
 refine wpo_load1 (v := .int .i64 m.t.kind) X0 rfl (hN103.blk.cell rfl) rfl ?_
 refine wpo_eql (q := decide (m.t.kind = 5)) rfl rfl rfl rfl ?_
 refine wpo_nil ?_
 refine Xq rfl (fun h105 => ?_) (fun h105 => ?_)
 ·
  have h106 := of_decide_eq_true h105
  refine Xa ?_
  refine wpo_fieldAddr (o' := 7) Jj rfl rfl rfl ?_
  refine wpo_load1 (v := .int .i64 m.t.to) X0 rfl (hN103.blk.cell rfl) rfl ?_
  refine Xh (vs := [.int .i64 m.t.to, .int .i64 1, .int .i64 8]) V3 (Xb rfl (Xb rfl (Xb rfl Xg))) rfl (Jh m.t.to 1 8 _) ?_
  rintro _ w107 ⟨rfl, hg108⟩
  have hb109 := low0 hb104 hg108
  refine wpo_assign (v := .bool (inR m.t.to 1 8)) rfl rfl ?_
  refine wpo_nil ?_
  refine Xj ?_
  refine X7 ?_
  refine ⟨.bool (inR m.t.to 1 8), res1 rfl rfl, ?_, hb109⟩
  first | (simp [targetOk, h106]; done) | (simp [targetOk, h106]; omega) | (simp [targetOk, h106]; intros; omega)
 ·
  have h110 := of_decide_eq_false h105
  refine Xk ?_
  refine Xn ?_
  refine Xa ?_
  refine wpo_fieldAddr (o' := 7) Jj rfl rfl rfl ?_
  refine wpo_load1 (v := .int .i64 m.t.to) X0 rfl (hN103.blk.cell rfl) rfl ?_
  refine wpo_eql (q := decide (m.t.to = 0)) rfl rfl rfl rfl ?_
  refine wpo_assign (v := .bool (decide (m.t.to = 0))) rfl rfl ?_
  refine wpo_nil ?_
  refine Xj ?_
  refine ⟨.bool (decide (m.t.to = 0)), res1 rfl rfl, ?_, hb104⟩
  first | (simp [targetOk, h110]; done) | (simp [targetOk, h110]; omega) | (simp [targetOk, h110]; intros; omega)
theorem Mb [Comp] (m : MTh) (w : World) (hs : SlAt w m.sa 5 (m.t.slots.map Rt.cells)) (hq : SlAt w m.qa 1 (m.t.queue.map icell)) (hsl : m.t.slots.length ≤ 9223372036854775806) (hql : m.t.queue.length ≤ 9223372036854775806) : CallsR Try.prog 54 #[.agg #[.int .i64 m.t.kind, .int .i64 m.t.lab.s, .int .i64 m.t.lab.v, .int .i64 m.t.ve, .int .i64 m.t.num, .slice m.sa m.t.slots.length m.sc, .slice m.qa m.t.queue.length m.qc, .int .i64 m.t.to]] w (fun v w' => v = .bool (queueOk m.t) ∧ w.grownBy w' none) := by
 refine Xp (n := 27) Try.func54 rfl Try.ntmps54 rfl ?_
 have hb0 := World.grownBy.refl w none
 refine Xa ?_
 refine wpo_box (v := .agg #[.int .i64 m.t.kind, .int .i64 m.t.lab.s, .int .i64 m.t.lab.v, .int .i64 m.t.ve, .int .i64 m.t.num, .slice m.sa m.t.slots.length m.sc, .slice m.qa m.t.queue.length m.qc, .int .i64 m.t.to]) (cs := #[.int .i64 m.t.kind, .int .i64 m.t.lab.s, .int .i64 m.t.lab.v, .int .i64 m.t.ve, .int .i64 m.t.num, .slice m.sa m.t.slots.length m.sc, .slice m.qa m.t.queue.length m.qc, .int .i64 m.t.to]) rfl rfl rfl ?_
 intro B101 w102 hN103
 have hlB101 := X1 hN103 hb0
 have hb104 := low0 hb0 hN103.grw
 refine wpo_assign (v := .bool false) rfl rfl ?_
 refine wpo_nil ?_
 refine Xi ?_
 refine Xa ?_
 refine wpo_fieldAddr (o' := 0) X9 rfl rfl rfl ?_
 refine wpo_load1 (v := .int .i64 m.t.kind) X0 rfl (hN103.blk.cell rfl) rfl ?_
 refine wpo_neq (q := !(decide (m.t.kind = 4))) rfl rfl rfl rfl ?_
 refine wpo_nil ?_
 refine Xq rfl (fun h105 => ?_) (fun h105 => ?_)
 ·
  have h106 := Q3 h105
  have h107 := of_decide_eq_false h106
  refine Xa ?_
  refine wpo_fieldAddr (o' := 6) Qk rfl rfl rfl ?_
  refine wpo_load1 (v := .slice m.qa m.t.queue.length m.qc) Jo rfl (hN103.blk.cell rfl) rfl ?_
  refine wpo_len (by kernel_rfl) rfl rfl ?_
  refine wpo_eql (q := decide ((m.t.queue.length : Int) = 0)) rfl rfl rfl rfl ?_
  refine wpo_assign (v := .bool (decide ((m.t.queue.length : Int) = 0))) rfl rfl ?_
  refine wpo_nil ?_
  refine Xj ?_
  refine X7 ?_
  refine ⟨.bool (decide ((m.t.queue.length : Int) = 0)), res1 rfl rfl, ?_, hb104⟩
  first | (simp [queueOk, h107]; done) | (simp [queueOk, h107]; omega) | (simp [queueOk, h107]; intros; omega)
 ·
  have h108 := Y9 h105
  have h109 := of_decide_eq_true h108
  refine Xk ?_
  refine Xn ?_
  refine Xi ?_
  refine Xa ?_
  refine wpo_fieldAddr (o' := 6) Qk rfl rfl rfl ?_
  refine wpo_load1 (v := .slice m.qa m.t.queue.length m.qc) Jo rfl (hN103.blk.cell rfl) rfl ?_
  refine wpo_len (by kernel_rfl) rfl rfl ?_
  refine wpo_gtr (q := decide (3 < (m.t.queue.length : Int))) rfl rfl rfl rfl ?_
  refine wpo_nil ?_
  refine Xq rfl (fun h110 => ?_) (fun h110 => ?_)
  ·
   have h111 := of_decide_eq_true h110
   refine Xa ?_
   refine wpo_assign (v := .bool false) rfl rfl ?_
   refine wpo_nil ?_
   refine Xj ?_
   refine X7 ?_
   refine ⟨.bool false, res1 rfl rfl, ?_, hb104⟩
   first | (simp [queueOk, h109, h111]; done) | (simp [queueOk, h109, h111]; omega) | (simp [queueOk, h109, h111]; intros; omega)
  ·
   have h112 := of_decide_eq_false h110
   refine Xk ?_
   refine Xn ?_
   refine Xi ?_
   refine Xa ?_
   refine wpo_fieldAddr (o' := 6) Qk rfl rfl rfl ?_
   refine wpo_load1 (v := .slice m.qa m.t.queue.length m.qc) Jo rfl (hN103.blk.cell rfl) rfl ?_
   refine wpo_len (by kernel_rfl) rfl rfl ?_
   refine wpo_move (v := .int .i64 0) rfl rfl ?_
   refine wpo_nil ?_
   refine Xv ?_
   refine Ye (fun mm f' w' => ∃ (k : Nat), mm = m.t.queue.length - k ∧ k ≤ m.t.queue.length ∧ ((m.t.queue.take k).all numQ) = true ∧ f' 19 = .int .i64 (k : Int) ∧ f' 17 = .slice m.qa m.t.queue.length m.qc ∧ f' 18 = .int .i64 (m.t.queue.length : Int) ∧ w.grownBy w' none) (m.t.queue.length - 0) ⟨0, rfl, (Nat.zero_le _), rfl, rfl, rfl, rfl, hb104⟩ ?_
   rintro mm f113 w114 ⟨k, hm116, hk, ha, e117, e118, e119, hb115⟩
   refine Xa ?_
   refine wpo_lss (q := decide ((k : Int) < (m.t.queue.length : Int))) e117 e119 rfl rfl ?_
   refine wpo_nil ?_
   refine Xi ?_
   refine Xq rfl (fun h120 => ?_) (fun h120 => ?_)
   ·
    have h121 := of_decide_eq_true h120
    refine Xk ?_
    refine Xn ?_
    refine Xi ?_
    refine Xv ?_
    refine Xa ?_
    obtain ⟨x122, hx123⟩ := Qc (l := m.t.queue) (i := k) (by omega)
    obtain ⟨b124, q125, o126, ha127, ho128, hr129⟩ := SlAt.at hq (Yh hx123)
    refine X2 Km e118 e117 ha127 ho128 (by omega) (by omega) rfl ?_
    refine wpo_load1 (v := .int .i64 x122) X0 rfl ((Yp hr129 hb115) 0 _ rfl) rfl ?_
    refine wpo_assign (v := .int .i64 x122) rfl rfl ?_
    refine wpo_nil ?_
    refine Xa ?_
    refine wpo_move (v := .int .i64 x122) rfl rfl ?_
    refine Xh (vs := [.int .i64 x122, .int .i64 0, .int .i64 99]) V3 (Xb rfl (Xb rfl (Xb rfl Xg))) rfl (Jh x122 0 99 _) ?_
    rintro _ w130 ⟨rfl, hg131⟩
    have hb132 := low0 hb115 hg131
    refine wpo_not (b' := !inR x122 0 99) rfl rfl rfl ?_
    refine wpo_nil ?_
    refine Xq rfl (fun h133 => ?_) (fun h133 => ?_)
    ·
     have h134 := Q3 h133
     refine Xa ?_
     refine wpo_assign (v := .bool false) rfl rfl ?_
     refine wpo_nil ?_
     refine Xj ?_
     refine Qd ?_
     refine X7 ?_
     refine X7 ?_
     refine Qd ?_
     refine X7 ?_
     refine ⟨.bool false, res1 rfl rfl, ?_, hb132⟩
     simp [queueOk, h109, h112, h121, Ji (p := numQ) hx123 h134]
    ·
     have h135 := Y9 h133
     refine Xk ?_
     refine Yy ?_
     refine Xn ?_
     refine Xl ?_
     refine wpo_add (c := (k : Int) + 1) e117 rfl (by omega) (by omega) (by omega) rfl ?_
     refine wpo_move (v := .int .i64 ((k : Int) + 1)) rfl rfl ?_
     refine wpo_nil ?_
     refine Xn ?_
     exact ⟨m.t.queue.length - (k + 1), by omega, (k + 1), rfl, (by omega), (Ja (p := numQ) ha hx123 h135), rfl, e118, e119, hb132⟩
   ·
    have h136 := of_decide_eq_false h120
    refine Yj ?_
    refine Yt ?_
    refine Yt ?_
    refine Jf ?_
    refine Xn ?_
    refine Xa ?_
    refine wpo_assign (v := .bool true) rfl rfl ?_
    refine wpo_nil ?_
    refine Xj ?_
    refine ⟨.bool true, res1 rfl rfl, ?_, hb115⟩
    simp [queueOk, h109, h112, h136, Jn (p := numQ) ha (by omega)]; omega
theorem Mo [Comp] (m : MTh) (w : World) (hs : SlAt w m.sa 5 (m.t.slots.map Rt.cells)) (hq : SlAt w m.qa 1 (m.t.queue.map icell)) (hsl : m.t.slots.length ≤ 9223372036854775806) (hql : m.t.queue.length ≤ 9223372036854775806) : CallsR Try.prog 53 #[.agg #[.int .i64 m.t.kind, .int .i64 m.t.lab.s, .int .i64 m.t.lab.v, .int .i64 m.t.ve, .int .i64 m.t.num, .slice m.sa m.t.slots.length m.sc, .slice m.qa m.t.queue.length m.qc, .int .i64 m.t.to]] w (fun v w' => v = .bool (slotsOk m.t) ∧ w.grownBy w' none) := by
 refine Xp (n := 32) Try.func53 rfl Try.ntmps53 rfl ?_
 have hb0 := World.grownBy.refl w none
 refine Xa ?_
 refine wpo_box (v := .agg #[.int .i64 m.t.kind, .int .i64 m.t.lab.s, .int .i64 m.t.lab.v, .int .i64 m.t.ve, .int .i64 m.t.num, .slice m.sa m.t.slots.length m.sc, .slice m.qa m.t.queue.length m.qc, .int .i64 m.t.to]) (cs := #[.int .i64 m.t.kind, .int .i64 m.t.lab.s, .int .i64 m.t.lab.v, .int .i64 m.t.ve, .int .i64 m.t.num, .slice m.sa m.t.slots.length m.sc, .slice m.qa m.t.queue.length m.qc, .int .i64 m.t.to]) rfl rfl rfl ?_
 intro B101 w102 hN103
 have hlB101 := X1 hN103 hb0
 have hb104 := low0 hb0 hN103.grw
 refine wpo_assign (v := .bool false) rfl rfl ?_
 refine wpo_nil ?_
 refine Xi ?_
 refine Xs (fun f' w' => (f' 1 = .pointer (some ⟨B101, 0, none⟩) ∧ f' 2 = .bool false ∧ f' 12 = .bool ((!(decide (m.t.kind = 2))) && (!(decide (m.t.kind = 3))))) ∧ w102 = w') ?_ ?_
 ·
  refine wpo_fieldAddr (o' := 0) X9 rfl rfl rfl ?_
  refine wpo_load1 (v := .int .i64 m.t.kind) X0 rfl (hN103.blk.cell rfl) rfl ?_
  refine wpo_neq (q := !(decide (m.t.kind = 2))) rfl rfl rfl rfl ?_
  refine wpo_move (v := .bool (!(decide (m.t.kind = 2)))) rfl rfl ?_
  rcases Xy (!(decide (m.t.kind = 2))) with h105 | h105
  ·
   have h106 := Q3 h105
   have h107 := of_decide_eq_false h106
   refine Xc rfl rfl rfl h105 ?_
   refine wpo_fieldAddr (o' := 0) X9 rfl rfl rfl ?_
   refine Xc rfl rfl rfl h105 ?_
   refine wpo_load1 (v := .int .i64 m.t.kind) X0 rfl (hN103.blk.cell rfl) rfl ?_
   refine Xc rfl rfl rfl h105 ?_
   refine wpo_neq (q := !(decide (m.t.kind = 3))) rfl rfl rfl rfl ?_
   refine wpo_pickt (v := .bool (!(decide (m.t.kind = 3)))) rfl h105 rfl rfl ?_
   exact wpo_nil ⟨⟨rfl, rfl, (congrArg Value.bool (by first | (simp only [h105, h106, b0, b1, b2, b3, b4, b5, b6, b7, b8, b9]; done) | simp [h105, h106]))⟩, rfl⟩
  ·
   have h108 := Y9 h105
   have h109 := of_decide_eq_true h108
   iterate 3 refine Xe rfl rfl rfl h105 rfl ?_
   refine wpo_pickf (v := .bool false) rfl h105 rfl rfl ?_
   exact wpo_nil ⟨⟨rfl, rfl, (congrArg Value.bool (by first | (simp only [h105, h108, b0, b1, b2, b3, b4, b5, b6, b7, b8, b9]; done) | simp [h105, h108]))⟩, rfl⟩
 ·
  rintro f110 w111 ⟨⟨e112, e113, e114⟩, rfl⟩
  refine Xq e114 (fun h115 => ?_) (fun h115 => ?_)
  ·
   have h116 := Sv h115
   have h117 := Q3 h116
   have h118 := of_decide_eq_false h117
   have h119 := Sw h115
   have h120 := Q3 h119
   have h121 := of_decide_eq_false h120
   refine Xa ?_
   refine wpo_fieldAddr (o' := 5) Y2 e112 rfl rfl ?_
   refine wpo_load1 (v := .slice m.sa m.t.slots.length m.sc) Jc rfl (hN103.blk.cell rfl) rfl ?_
   refine wpo_len (by kernel_rfl) rfl rfl ?_
   refine wpo_eql (q := decide ((m.t.slots.length : Int) = 0)) rfl rfl rfl rfl ?_
   refine wpo_assign (v := .bool (decide ((m.t.slots.length : Int) = 0))) rfl rfl ?_
   refine wpo_nil ?_
   refine Xj ?_
   refine X7 ?_
   refine ⟨.bool (decide ((m.t.slots.length : Int) = 0)), res1 rfl rfl, ?_, hb104⟩
   rw [Mp h115]
  ·
   refine Xk ?_
   refine Xn ?_
   refine Xi ?_
   refine Xa ?_
   refine wpo_fieldAddr (o' := 5) Y2 e112 rfl rfl ?_
   refine wpo_load1 (v := .slice m.sa m.t.slots.length m.sc) Jc rfl (hN103.blk.cell rfl) rfl ?_
   refine wpo_len (by kernel_rfl) rfl rfl ?_
   refine wpo_neq (q := !(decide ((m.t.slots.length : Int) = 4))) rfl rfl rfl rfl ?_
   refine wpo_nil ?_
   refine Xq rfl (fun h122 => ?_) (fun h122 => ?_)
   ·
    have h123 := Q3 h122
    have h124 := of_decide_eq_false h123
    refine Xa ?_
    refine wpo_assign (v := .bool false) rfl rfl ?_
    refine wpo_nil ?_
    refine Xj ?_
    refine X7 ?_
    refine ⟨.bool false, res1 rfl rfl, ?_, hb104⟩
    rw [Gd h115]
    rw [decide_eq_false (by omega)]; rfl
   ·
    have h125 := Y9 h122
    have h126 := of_decide_eq_true h125
    refine Xk ?_
    refine Xn ?_
    refine Xi ?_
    refine Xa ?_
    refine wpo_fieldAddr (o' := 5) Y2 e112 rfl rfl ?_
    refine wpo_load1 (v := .slice m.sa m.t.slots.length m.sc) Jc rfl (hN103.blk.cell rfl) rfl ?_
    obtain ⟨b127, q128, ha129, hr130⟩ := SlAt.all Y5 (by omega) (SlAt.low hs hb104) (by omega)
    refine wpo_s2a M1 rfl ha129 (by omega) rfl ?_
    refine wpo_loadn (vs := m.t.slots.flatMap Rt.cells) Oa rfl (by rw [Y6 Y5]; omega) hr130 rfl ?_
    refine wpo_move (v := .int .i64 0) rfl rfl ?_
    refine wpo_nil ?_
    refine Xv ?_
    refine Ye (fun mm f' w' => ∃ (k : Nat), mm = m.t.slots.length - k ∧ k ≤ m.t.slots.length ∧ ((m.t.slots.take k).all rightOk) = true ∧ f' 25 = .int .i64 (k : Int) ∧ f' 24 = .agg (m.t.slots.flatMap Rt.cells).toArray ∧ w.grownBy w' none) (m.t.slots.length - 0) ⟨0, rfl, (Nat.zero_le _), rfl, rfl, rfl, hb104⟩ ?_
    rintro mm f131 w132 ⟨k, hm134, hk, ha, e135, e136, hb133⟩
    refine Xa ?_
    refine wpo_lss (q := decide ((k : Int) < 4)) e135 rfl rfl rfl ?_
    refine wpo_nil ?_
    refine Xi ?_
    refine Xq rfl (fun h137 => ?_) (fun h137 => ?_)
    ·
     have h138 := of_decide_eq_true h137
     refine Xk ?_
     refine Xn ?_
     refine Xi ?_
     refine Xv ?_
     refine Xa ?_
     obtain ⟨x139, hx140⟩ := Qc (l := m.t.slots) (i := k) (by omega)
     refine wpo_indexArr (g := Rt.cells) (z := x139) M1 Y1 Y5 e136 e135 (by omega) (by omega) hx140 rfl ?_
     refine wpo_alloc (cs := #[.int .i64 0, .int .i64 0, .bool false, .bool false, .bool false]) H1 rfl rfl ?_
     intro B141 w142 hN143
     have hlB141 := X1 hN143 hb133
     have hb144 := low0 hb133 hN143.grw
     refine wpo_storen (vs := [.int .i64 x139.th, .int .i64 x139.ve, .bool x139.rd, .bool x139.wr, .bool x139.wk]) (cs' := #[.int .i64 x139.th, .int .i64 x139.ve, .bool x139.rd, .bool x139.wr, .bool x139.wk]) Y1 rfl rfl rfl (by simp [Value.oneCell']) hN143.blk (Nat.le_of_ble_eq_true rfl) rfl ?_
     intro w145 hS146
     have hb147 := low1 hb144 hS146.grw (by omega)
     refine wpo_nil ?_
     refine Xa ?_
     refine wpo_loadn (vs := [.int .i64 x139.th, .int .i64 x139.ve, .bool x139.rd, .bool x139.wr, .bool x139.wk]) Y1 rfl rfl (hS146.blk.rangeL 0 5 rfl) rfl ?_
     refine Xh (vs := [.agg #[.int .i64 x139.th, .int .i64 x139.ve, .bool x139.rd, .bool x139.wr, .bool x139.wk]]) I3 (Xb rfl Xg) rfl (Te x139 _) ?_
     rintro _ w148 ⟨rfl, hg149⟩
     have hb150 := low0 hb147 hg149
     refine wpo_not (b' := !rightOk x139) rfl rfl rfl ?_
     refine wpo_nil ?_
     refine Xq rfl (fun h151 => ?_) (fun h151 => ?_)
     ·
      have h152 := Q3 h151
      refine Xa ?_
      refine wpo_assign (v := .bool false) rfl rfl ?_
      refine wpo_nil ?_
      refine Xj ?_
      refine Qd ?_
      refine X7 ?_
      refine X7 ?_
      refine Qd ?_
      refine X7 ?_
      refine ⟨.bool false, res1 rfl rfl, ?_, hb150⟩
      rw [Gd h115]
      simp [Ji (p := rightOk) hx140 h152]
     ·
      have h153 := Y9 h151
      refine Xk ?_
      refine Yy ?_
      refine Xn ?_
      refine Xl ?_
      refine wpo_add (c := (k : Int) + 1) e135 rfl (by omega) (by omega) (by omega) rfl ?_
      refine wpo_move (v := .int .i64 ((k : Int) + 1)) rfl rfl ?_
      refine wpo_nil ?_
      refine Xn ?_
      exact ⟨m.t.slots.length - (k + 1), by omega, (k + 1), rfl, (by omega), (Ja (p := rightOk) ha hx140 h153), rfl, e136, hb150⟩
    ·
     have h154 := of_decide_eq_false h137
     refine Yj ?_
     refine Yt ?_
     refine Yt ?_
     refine Jf ?_
     refine Xn ?_
     refine Xa ?_
     refine wpo_assign (v := .bool true) rfl rfl ?_
     refine wpo_nil ?_
     refine Xj ?_
     refine ⟨.bool true, res1 rfl rfl, ?_, hb133⟩
     rw [Gd h115]
     rw [Jn (p := rightOk) ha (by omega), decide_eq_true (by omega)]; rfl
theorem Vg [Comp] (m : MTh) (w : World) (hs : SlAt w m.sa 5 (m.t.slots.map Rt.cells)) (hq : SlAt w m.qa 1 (m.t.queue.map icell)) (hsl : m.t.slots.length ≤ 9223372036854775806) (hql : m.t.queue.length ≤ 9223372036854775806) : CallsR Try.prog 20 #[.agg #[.int .i64 m.t.kind, .int .i64 m.t.lab.s, .int .i64 m.t.lab.v, .int .i64 m.t.ve, .int .i64 m.t.num, .slice m.sa m.t.slots.length m.sc, .slice m.qa m.t.queue.length m.qc, .int .i64 m.t.to]] w (fun v w' => v = .bool (thingOk m.t) ∧ w.grownBy w' none) := by
 refine Xp (n := 31) Try.func20 rfl Try.ntmps20 rfl ?_
 have hb0 := World.grownBy.refl w none
 refine Xa ?_
 refine wpo_box (v := .agg #[.int .i64 m.t.kind, .int .i64 m.t.lab.s, .int .i64 m.t.lab.v, .int .i64 m.t.ve, .int .i64 m.t.num, .slice m.sa m.t.slots.length m.sc, .slice m.qa m.t.queue.length m.qc, .int .i64 m.t.to]) (cs := #[.int .i64 m.t.kind, .int .i64 m.t.lab.s, .int .i64 m.t.lab.v, .int .i64 m.t.ve, .int .i64 m.t.num, .slice m.sa m.t.slots.length m.sc, .slice m.qa m.t.queue.length m.qc, .int .i64 m.t.to]) rfl rfl rfl ?_
 intro B101 w102 hN103
 have hlB101 := X1 hN103 hb0
 have hb104 := low0 hb0 hN103.grw
 refine wpo_assign (v := .bool false) rfl rfl ?_
 refine wpo_nil ?_
 refine Xs (fun f' w' => (f' 2 = .bool ((((((inR m.t.kind 1 5 && labelOk m.t.lab) && versOk m.t) && numOk m.t) && slotsOk m.t) && queueOk m.t) && targetOk m.t)) ∧ w102.grownBy w' none) ?_ ?_
 ·
  refine wpo_fieldAddr (o' := 0) X9 rfl rfl rfl ?_
  refine wpo_load1 (v := .int .i64 m.t.kind) X0 rfl (hN103.blk.cell rfl) rfl ?_
  refine Xh (vs := [.int .i64 m.t.kind, .int .i64 1, .int .i64 5]) V3 (Xb rfl (Xb rfl (Xb rfl Xg))) rfl (Jh m.t.kind 1 5 _) ?_
  rintro _ w135 ⟨rfl, hg136⟩
  have hb137 := low0 hb104 hg136
  refine wpo_move (v := .bool (inR m.t.kind 1 5)) rfl rfl ?_
  rcases Xy (inR m.t.kind 1 5) with h138 | h138
  ·
   refine Xc rfl rfl rfl h138 ?_
   refine wpo_fieldAddr (o' := 1) J7 rfl rfl rfl ?_
   refine Xc rfl rfl rfl h138 ?_
   have k139 := (hN103.blk.grown0 hg136)
   refine wpo_loadn (vs := [.int .i64 m.t.lab.s, .int .i64 m.t.lab.v]) Yr rfl rfl (k139.rangeL 1 2 rfl) rfl ?_
   refine Xc rfl rfl rfl h138 ?_
   refine Xh (vs := [.agg #[.int .i64 m.t.lab.s, .int .i64 m.t.lab.v]]) Hf (Xb rfl Xg) rfl (J1 m.t.lab _) ?_
   rintro _ w140 ⟨rfl, hg141⟩
   have hb142 := low0 hb137 hg141
   refine wpo_pickt (v := .bool (labelOk m.t.lab)) rfl h138 rfl rfl ?_
   refine wpo_move (v := .bool (labelOk m.t.lab)) rfl rfl ?_
   rcases Xy (labelOk m.t.lab) with h143 | h143
   ·
    refine Xc rfl rfl rfl h143 ?_
    have k144 := (k139.grown0 hg141)
    refine wpo_loadn (vs := [.int .i64 m.t.kind, .int .i64 m.t.lab.s, .int .i64 m.t.lab.v, .int .i64 m.t.ve, .int .i64 m.t.num, .slice m.sa m.t.slots.length m.sc, .slice m.qa m.t.queue.length m.qc, .int .i64 m.t.to]) Xx rfl rfl (k144.rangeL 0 8 rfl) rfl ?_
    refine Xc rfl rfl rfl h143 ?_
    refine Xh (vs := [.agg #[.int .i64 m.t.kind, .int .i64 m.t.lab.s, .int .i64 m.t.lab.v, .int .i64 m.t.ve, .int .i64 m.t.num, .slice m.sa m.t.slots.length m.sc, .slice m.qa m.t.queue.length m.qc, .int .i64 m.t.to]]) Is (Xb rfl Xg) rfl (Cx m _) ?_
    rintro _ w145 ⟨rfl, hg146⟩
    have hb147 := low0 hb142 hg146
    refine wpo_pickt (v := .bool (versOk m.t)) rfl h143 rfl rfl ?_
    refine wpo_move (v := .bool (versOk m.t)) rfl rfl ?_
    rcases Xy (versOk m.t) with h148 | h148
    ·
     refine Xc rfl rfl rfl h148 ?_
     have k149 := (k144.grown0 hg146)
     refine wpo_loadn (vs := [.int .i64 m.t.kind, .int .i64 m.t.lab.s, .int .i64 m.t.lab.v, .int .i64 m.t.ve, .int .i64 m.t.num, .slice m.sa m.t.slots.length m.sc, .slice m.qa m.t.queue.length m.qc, .int .i64 m.t.to]) Xx rfl rfl (k149.rangeL 0 8 rfl) rfl ?_
     refine Xc rfl rfl rfl h148 ?_
     refine Xh (vs := [.agg #[.int .i64 m.t.kind, .int .i64 m.t.lab.s, .int .i64 m.t.lab.v, .int .i64 m.t.ve, .int .i64 m.t.num, .slice m.sa m.t.slots.length m.sc, .slice m.qa m.t.queue.length m.qc, .int .i64 m.t.to]]) Iu (Xb rfl Xg) rfl (Do m _) ?_
     rintro _ w150 ⟨rfl, hg151⟩
     have hb152 := low0 hb147 hg151
     refine wpo_pickt (v := .bool (numOk m.t)) rfl h148 rfl rfl ?_
     refine wpo_move (v := .bool (numOk m.t)) rfl rfl ?_
     rcases Xy (numOk m.t) with h153 | h153
     ·
      refine Xc rfl rfl rfl h153 ?_
      have k154 := (k149.grown0 hg151)
      refine wpo_loadn (vs := [.int .i64 m.t.kind, .int .i64 m.t.lab.s, .int .i64 m.t.lab.v, .int .i64 m.t.ve, .int .i64 m.t.num, .slice m.sa m.t.slots.length m.sc, .slice m.qa m.t.queue.length m.qc, .int .i64 m.t.to]) Xx rfl rfl (k154.rangeL 0 8 rfl) rfl ?_
      refine Xc rfl rfl rfl h153 ?_
      refine Xh (vs := [.agg #[.int .i64 m.t.kind, .int .i64 m.t.lab.s, .int .i64 m.t.lab.v, .int .i64 m.t.ve, .int .i64 m.t.num, .slice m.sa m.t.slots.length m.sc, .slice m.qa m.t.queue.length m.qc, .int .i64 m.t.to]]) Iv (Xb rfl Xg) rfl (Mo m _ (SlAt.low hs hb152) (SlAt.low hq hb152) (by first | omega | exact Nat.le_of_ble_eq_true rfl | (simp only [List.length_nil, List.length_cons, List.length_append, List.length_replicate]; omega)) (by first | omega | exact Nat.le_of_ble_eq_true rfl | (simp only [List.length_nil, List.length_cons, List.length_append, List.length_replicate]; omega))) ?_
      rintro _ w155 ⟨rfl, hg156⟩
      have hb157 := low0 hb152 hg156
      refine wpo_pickt (v := .bool (slotsOk m.t)) rfl h153 rfl rfl ?_
      refine wpo_move (v := .bool (slotsOk m.t)) rfl rfl ?_
      rcases Xy (slotsOk m.t) with h158 | h158
      ·
       refine Xc rfl rfl rfl h158 ?_
       have k159 := (k154.grown0 hg156)
       refine wpo_loadn (vs := [.int .i64 m.t.kind, .int .i64 m.t.lab.s, .int .i64 m.t.lab.v, .int .i64 m.t.ve, .int .i64 m.t.num, .slice m.sa m.t.slots.length m.sc, .slice m.qa m.t.queue.length m.qc, .int .i64 m.t.to]) Xx rfl rfl (k159.rangeL 0 8 rfl) rfl ?_
       refine Xc rfl rfl rfl h158 ?_
       refine Xh (vs := [.agg #[.int .i64 m.t.kind, .int .i64 m.t.lab.s, .int .i64 m.t.lab.v, .int .i64 m.t.ve, .int .i64 m.t.num, .slice m.sa m.t.slots.length m.sc, .slice m.qa m.t.queue.length m.qc, .int .i64 m.t.to]]) Iw (Xb rfl Xg) rfl (Mb m _ (SlAt.low hs hb157) (SlAt.low hq hb157) (by first | omega | exact Nat.le_of_ble_eq_true rfl | (simp only [List.length_nil, List.length_cons, List.length_append, List.length_replicate]; omega)) (by first | omega | exact Nat.le_of_ble_eq_true rfl | (simp only [List.length_nil, List.length_cons, List.length_append, List.length_replicate]; omega))) ?_
       rintro _ w160 ⟨rfl, hg161⟩
       have hb162 := low0 hb157 hg161
       refine wpo_pickt (v := .bool (queueOk m.t)) rfl h158 rfl rfl ?_
       refine wpo_move (v := .bool (queueOk m.t)) rfl rfl ?_
       rcases Xy (queueOk m.t) with h163 | h163
       ·
        refine Xc rfl rfl rfl h163 ?_
        have k164 := (k159.grown0 hg161)
        refine wpo_loadn (vs := [.int .i64 m.t.kind, .int .i64 m.t.lab.s, .int .i64 m.t.lab.v, .int .i64 m.t.ve, .int .i64 m.t.num, .slice m.sa m.t.slots.length m.sc, .slice m.qa m.t.queue.length m.qc, .int .i64 m.t.to]) Xx rfl rfl (k164.rangeL 0 8 rfl) rfl ?_
        refine Xc rfl rfl rfl h163 ?_
        refine Xh (vs := [.agg #[.int .i64 m.t.kind, .int .i64 m.t.lab.s, .int .i64 m.t.lab.v, .int .i64 m.t.ve, .int .i64 m.t.num, .slice m.sa m.t.slots.length m.sc, .slice m.qa m.t.queue.length m.qc, .int .i64 m.t.to]]) Iy (Xb rfl Xg) rfl (So m _) ?_
        rintro _ w165 ⟨rfl, hg166⟩
        have hb167 := low0 hb162 hg166
        refine wpo_pickt (v := .bool (targetOk m.t)) rfl h163 rfl rfl ?_
        refine wpo_assign (v := .bool (targetOk m.t)) rfl rfl ?_
        exact wpo_nil ⟨(congrArg Value.bool (by first | (simp only [h138, h143, h148, h153, h158, h163, b0, b1, b2, b3, b4, b5, b6, b7, b8, b9]; done) | simp [h138, h143, h148, h153, h158, h163])), (Xf (Xf (Xf (Xf (Xf (Xf hg136 hg141) hg146) hg151) hg156) hg161) hg166)⟩
       ·
        refine Xe rfl rfl rfl h163 rfl ?_
        refine Xe rfl rfl rfl h163 rfl ?_
        refine wpo_pickf (v := .bool false) rfl h163 rfl rfl ?_
        refine wpo_assign (v := .bool false) rfl rfl ?_
        exact wpo_nil ⟨(congrArg Value.bool (by first | (simp only [h138, h143, h148, h153, h158, h163, b0, b1, b2, b3, b4, b5, b6, b7, b8, b9]; done) | simp [h138, h143, h148, h153, h158, h163])), (Xf (Xf (Xf (Xf (Xf hg136 hg141) hg146) hg151) hg156) hg161)⟩
      ·
       refine Xe rfl rfl rfl h158 rfl ?_
       refine Xe rfl rfl rfl h158 rfl ?_
       refine wpo_pickf (v := .bool false) rfl h158 rfl rfl ?_
       refine wpo_move (v := .bool false) rfl rfl ?_
       refine Xe rfl rfl rfl rfl rfl ?_
       refine Xe rfl rfl rfl rfl rfl ?_
       refine wpo_pickf (v := .bool false) rfl rfl rfl rfl ?_
       refine wpo_assign (v := .bool false) rfl rfl ?_
       exact wpo_nil ⟨(congrArg Value.bool (by first | (simp only [h138, h143, h148, h153, h158, b0, b1, b2, b3, b4, b5, b6, b7, b8, b9]; done) | simp [h138, h143, h148, h153, h158])), (Xf (Xf (Xf (Xf hg136 hg141) hg146) hg151) hg156)⟩
     ·
      refine Xe rfl rfl rfl h153 rfl ?_
      refine Xe rfl rfl rfl h153 rfl ?_
      refine wpo_pickf (v := .bool false) rfl h153 rfl rfl ?_
      refine wpo_move (v := .bool false) rfl rfl ?_
      refine Xe rfl rfl rfl rfl rfl ?_
      refine Xe rfl rfl rfl rfl rfl ?_
      refine wpo_pickf (v := .bool false) rfl rfl rfl rfl ?_
      refine wpo_move (v := .bool false) rfl rfl ?_
      refine Xe rfl rfl rfl rfl rfl ?_
      refine Xe rfl rfl rfl rfl rfl ?_
      refine wpo_pickf (v := .bool false) rfl rfl rfl rfl ?_
      refine wpo_assign (v := .bool false) rfl rfl ?_
      exact wpo_nil ⟨(congrArg Value.bool (by first | (simp only [h138, h143, h148, h153, b0, b1, b2, b3, b4, b5, b6, b7, b8, b9]; done) | simp [h138, h143, h148, h153])), (Xf (Xf (Xf hg136 hg141) hg146) hg151)⟩
    ·
     refine Xe rfl rfl rfl h148 rfl ?_
     refine Xe rfl rfl rfl h148 rfl ?_
     refine wpo_pickf (v := .bool false) rfl h148 rfl rfl ?_
     refine wpo_move (v := .bool false) rfl rfl ?_
     refine Xe rfl rfl rfl rfl rfl ?_
     refine Xe rfl rfl rfl rfl rfl ?_
     refine wpo_pickf (v := .bool false) rfl rfl rfl rfl ?_
     refine wpo_move (v := .bool false) rfl rfl ?_
     refine Xe rfl rfl rfl rfl rfl ?_
     refine Xe rfl rfl rfl rfl rfl ?_
     refine wpo_pickf (v := .bool false) rfl rfl rfl rfl ?_
     refine wpo_move (v := .bool false) rfl rfl ?_
     refine Xe rfl rfl rfl rfl rfl ?_
     refine Xe rfl rfl rfl rfl rfl ?_
     refine wpo_pickf (v := .bool false) rfl rfl rfl rfl ?_
     refine wpo_assign (v := .bool false) rfl rfl ?_
     exact wpo_nil ⟨(congrArg Value.bool (by first | (simp only [h138, h143, h148, b0, b1, b2, b3, b4, b5, b6, b7, b8, b9]; done) | simp [h138, h143, h148])), (Xf (Xf hg136 hg141) hg146)⟩
   ·
    refine Xe rfl rfl rfl h143 rfl ?_
    refine Xe rfl rfl rfl h143 rfl ?_
    refine wpo_pickf (v := .bool false) rfl h143 rfl rfl ?_
    refine wpo_move (v := .bool false) rfl rfl ?_
    refine Xe rfl rfl rfl rfl rfl ?_
    refine Xe rfl rfl rfl rfl rfl ?_
    refine wpo_pickf (v := .bool false) rfl rfl rfl rfl ?_
    refine wpo_move (v := .bool false) rfl rfl ?_
    refine Xe rfl rfl rfl rfl rfl ?_
    refine Xe rfl rfl rfl rfl rfl ?_
    refine wpo_pickf (v := .bool false) rfl rfl rfl rfl ?_
    refine wpo_move (v := .bool false) rfl rfl ?_
    refine Xe rfl rfl rfl rfl rfl ?_
    refine Xe rfl rfl rfl rfl rfl ?_
    refine wpo_pickf (v := .bool false) rfl rfl rfl rfl ?_
    refine wpo_move (v := .bool false) rfl rfl ?_
    refine Xe rfl rfl rfl rfl rfl ?_
    refine Xe rfl rfl rfl rfl rfl ?_
    refine wpo_pickf (v := .bool false) rfl rfl rfl rfl ?_
    refine wpo_assign (v := .bool false) rfl rfl ?_
    exact wpo_nil ⟨(congrArg Value.bool (by first | (simp only [h138, h143, b0, b1, b2, b3, b4, b5, b6, b7, b8, b9]; done) | simp [h138, h143])), (Xf hg136 hg141)⟩
  ·
   iterate 3 refine Xe rfl rfl rfl h138 rfl ?_
   refine wpo_pickf (v := .bool false) rfl h138 rfl rfl ?_
   refine wpo_move (v := .bool false) rfl rfl ?_
   refine Xe rfl rfl rfl rfl rfl ?_
   refine Xe rfl rfl rfl rfl rfl ?_
   refine wpo_pickf (v := .bool false) rfl rfl rfl rfl ?_
   refine wpo_move (v := .bool false) rfl rfl ?_
   refine Xe rfl rfl rfl rfl rfl ?_
   refine Xe rfl rfl rfl rfl rfl ?_
   refine wpo_pickf (v := .bool false) rfl rfl rfl rfl ?_
   refine wpo_move (v := .bool false) rfl rfl ?_
   refine Xe rfl rfl rfl rfl rfl ?_
   refine Xe rfl rfl rfl rfl rfl ?_
   refine wpo_pickf (v := .bool false) rfl rfl rfl rfl ?_
   refine wpo_move (v := .bool false) rfl rfl ?_
   refine Xe rfl rfl rfl rfl rfl ?_
   refine Xe rfl rfl rfl rfl rfl ?_
   refine wpo_pickf (v := .bool false) rfl rfl rfl rfl ?_
   refine wpo_move (v := .bool false) rfl rfl ?_
   refine Xe rfl rfl rfl rfl rfl ?_
   refine Xe rfl rfl rfl rfl rfl ?_
   refine wpo_pickf (v := .bool false) rfl rfl rfl rfl ?_
   refine wpo_assign (v := .bool false) rfl rfl ?_
   exact wpo_nil ⟨(congrArg Value.bool (by first | (simp only [h138, b0, b1, b2, b3, b4, b5, b6, b7, b8, b9]; done) | simp [h138])), hg136⟩
 ·
  rintro f168 w169 ⟨e170, hg171⟩
  have hb172 := low0 hb104 hg171
  refine Xj ?_
  refine ⟨.bool ((((((inR m.t.kind 1 5 && labelOk m.t.lab) && versOk m.t) && numOk m.t) && slotsOk m.t) && queueOk m.t) && targetOk m.t), res1 rfl e170, ?_, hb172⟩
  rfl
theorem Kc [Comp] (n : Int) (w : World) : CallsR Try.prog 95 #[.int .i64 n] w (fun v w' => v = .bool (decide (n = 2) || decide (n = 3)) ∧ w.grownBy w' none) := by
 refine Xp (n := 9) Try.func95 rfl Try.ntmps95 rfl ?_
 have hb0 := World.grownBy.refl w none
 refine Xa ?_
 refine wpo_assign (v := .bool false) rfl rfl ?_
 refine wpo_nil ?_
 refine Xs (fun f' w' => (f' 2 = .bool ((decide (n = 2)) || (decide (n = 3)))) ∧ w = w') ?_ ?_
 ·
  refine wpo_move (v := .int .i64 n) rfl rfl ?_
  refine wpo_eql (q := decide (n = 2)) rfl rfl rfl rfl ?_
  refine wpo_move (v := .bool (decide (n = 2))) rfl rfl ?_
  rcases Xy (decide (n = 2)) with h101 | h101
  ·
   have h102 := of_decide_eq_true h101
   refine Xe rfl rfl rfl h101 rfl ?_
   refine Xe rfl rfl rfl h101 rfl ?_
   refine wpo_pickt (v := .bool true) rfl h101 rfl rfl ?_
   refine wpo_assign (v := .bool true) rfl rfl ?_
   exact wpo_nil ⟨(congrArg Value.bool (by first | (simp only [h101, b0, b1, b2, b3, b4, b5, b6, b7, b8, b9]; done) | simp [h101])), rfl⟩
  ·
   have h103 := of_decide_eq_false h101
   refine Xc rfl rfl rfl h101 ?_
   refine wpo_move (v := .int .i64 n) rfl rfl ?_
   refine Xc rfl rfl rfl h101 ?_
   refine wpo_eql (q := decide (n = 3)) rfl rfl rfl rfl ?_
   refine wpo_pickf (v := .bool (decide (n = 3))) rfl h101 rfl rfl ?_
   refine wpo_assign (v := .bool (decide (n = 3))) rfl rfl ?_
   exact wpo_nil ⟨(congrArg Value.bool (by first | (simp only [h101, b0, b1, b2, b3, b4, b5, b6, b7, b8, b9]; done) | simp [h101])), rfl⟩
 ·
  rintro f104 w105 ⟨e106, rfl⟩
  refine Xj ?_
  refine ⟨.bool ((decide (n = 2)) || (decide (n = 3))), res1 rfl e106, ?_, hb0⟩
  rfl
end Go.Dw.J
end
