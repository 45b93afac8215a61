/- Laws and walks: my templates, and what a program of mine (gen.py) printed out of the functions; only what the row reaches. -/
import Derived.Test.YtldnkinaedgnpaaVX1
section
namespace Go.Dw
theorem TabLen.ok {ms : List MTh} (h : tableOk (tabT ms) = true) : TabLen ms := fun m hm => by
  have h1 := thingOk_parts (row_of h (List.mem_map.2 ⟨m, hm, rfl⟩)).1
  have h5 := h1.2.2.2.2.1
  have h6 := h1.2.2.2.2.2.1
  unfold slotsOk at h5
  unfold queueOk at h6
  constructor
  · split at h5
    · have := of_decide_eq_true (Bool.and_eq_true_iff.1 h5).1
      omega
    · have := of_decide_eq_true h5
      omega
  · split at h6
    · have := of_decide_eq_true (Bool.and_eq_true_iff.1 h6).1
      omega
    · have := of_decide_eq_true h6
      omega
section
variable {ms : List MTh} {q : Cl} {r : Rt}
end
section
variable {ms ms1 : List MTh} {q : Cl}
end
section
variable {P : Program} {n : Nat} {ops : Array Oper} {K : Fr → World → Prop} {l : List Oper} {f : Fr} {w : World} {ty : TypeId} {pos : String} {aft : Array Edge} {d : Nat}
end
end Go.Dw
end
section
namespace Go.Dw
open Go.RowKit
set_option linter.unusedVariables false
section
variable {P : Program} {n : Nat} {ops : Array Oper} {K : Fr → World → Prop} {l : List Oper} {f : Fr} {w w' : World} {d : Nat} {ty : TypeId} {pos : String} {aft : Array Edge}
def ub (ns : List Int) : List UInt8 := ns.map fun n => UInt8.ofNat n.toNat
end
section
variable {P : Program} {n : Nat} {ops : Array Oper} {K : Fr → World → Prop} {l : List Oper} {f : Fr} {w w' : World} {d : Nat} {ty : TypeId} {pos : String} {aft : Array Edge}
end
def dg (n : Int) : UInt8 := UInt8.ofNat (48 + n).toNat
def dec2 (n : Int) : List UInt8 := if n < 10 then [dg n] else [dg (n / 10), dg (n % 10)]
def dec (n : Int) : List UInt8 := if n < 0 then 45 :: dec2 (-n) else dec2 n
def labtx (l : Lab) : List UInt8 := if labelOk l = true then (dec l.s ++ [47]) ++ dec l.v else []
def kname (k : Int) : List UInt8 := if k = 1 then [112, 97, 103, 101] else if k = 2 then [110, 111, 100, 101] else if k = 3 then [114, 117, 110] else if k = 4 then [112, 105, 112, 101] else if k = 5 then [103, 97, 116, 101] else []
def hd3 (t : Th) : List UInt8 := (((((kname t.kind ++ [32]) ++ labtx t.lab) ++ [32]) ++ dec t.ve) ++ [32]) ++ dec t.num
def BlkM (w : World) (b : Nat) (T : TypeId) (cs : Array Value) : Prop := w.heap[b]? = some (.cells cs T (cs.size, cs.size + 1))
section
variable {w w' : World} {b : Nat} {T : TypeId} {cs : Array Value}
theorem BlkM.lt (h : BlkM w b T cs) : b < w.heap.size := (Array.getElem?_eq_some_iff.1 h).1
theorem BlkM.cell (h : BlkM w b T cs) {i : Nat} {v : Value} (hv : cs[i]? = some v) : w.cell? ⟨b, i, none⟩ = some v := by
  unfold BlkM at h
  simp [World.cell?, h, hv]
theorem BlkM.froz (h : BlkM w b T cs) {i : Nat} (hi : i < cs.size) : w.frozen? ⟨b, i, none⟩ = false := by
  unfold BlkM at h
  simp [World.frozen?, h]
  omega
theorem BlkM.grown (h : BlkM w b T cs) {r : Option Nat} (hg : w.grownBy w' r) (hne : some b ≠ r) : BlkM w' b T cs := (hg.block b h.lt hne).trans h
theorem BlkM.grown0 (h : BlkM w b T cs) (hg : w.grownBy w' none) : BlkM w' b T cs := h.grown hg (by simp)
end
section
variable {P : Program} {n : Nat} {ops : Array Oper} {K : Fr → World → Prop} {l : List Oper} {f : Fr} {w w' : World} {d : Nat} {ty : TypeId} {pos : String} {aft : Array Edge}
end
end Go.Dw
end
section
namespace Go.Dw.J
open Go.Dw Go.Conc Go.RowKit
set_option linter.unusedVariables false
set_option linter.unusedSimpArgs false
section
variable {P : Program}
theorem quiet_bindY {α β : Type} {R : α → Prop} {k : α → Sem β} (hk : ∀ x, R x → Quiet P (k x)) : ∀ {s : Sem α}, Quiet P s → Yields P R s → Quiet P (s.bind k)
  | .pure x, _, y => hk x y
  | .load _ _ _, h, y => ⟨h.1, fun v => quiet_bindY hk (h.2 v) (y v)⟩
  | .store _ _ _ k', h, y => ⟨h.1, quiet_bindY (s := k') hk h.2 y⟩
  | .new _ _, h, y => ⟨h.1, fun v => quiet_bindY hk (h.2 v) (y v)⟩
  | .shape _ _, h, _ => fun v => dead_bind (h v)
  | .freeze _ _ k', h, _ => dead_bind (s := k') h
  | .frozen _ _, h, _ => fun v => dead_bind (h v)
  | .getObj _ _, h, y => fun v hv => (h v hv).imp (fun x => ⟨x.1, quiet_bindY hk x.2 (y v)⟩) (fun x => dead_bind x)
  | .setObj _ _ k', h, y => ⟨h.1, quiet_bindY (s := k') hk h.2 y⟩
  | .choose _ _, h, y => fun v => quiet_bindY hk (h v) (y v)
  | .sys _ _, h, _ => fun v => dead_bind (h v)
  | .program k', h, y => quiet_bindY (s := k' P) hk h y
  | .mark _ k', h, y => h.imp (fun x => ⟨x.1, quiet_bindY (s := k') hk x.2 y⟩) (fun x => dead_bind (s := k') x)
  | .halt _, _, _ => trivial
theorem qby {α β : Type} {R : α → Prop} {s : Sem α} {k : α → Sem β} (h : Quiet P s) (hy : Yields P R s) (hk : ∀ x, R x → Quiet P (k x)) : Quiet P (s >>= k) := quiet_bindY hk h hy
theorem y_underlying {t : TypeId} {d : TypeDesc} (h : P.underlying t = some d) : Yields P (· = d) (underlying t) := by
  show Yields P (· = d) (match P.underlying t with | some d => (pure d : Sem TypeDesc) | none => _)
  rw [h]
  rfl
theorem y_sizeOf {t : TypeId} {i : TypeInfo} (h : P.info? t = some i) : Yields P (· = i.size) (sizeOf t) := by
  show Yields P (· = i.size) (Sem.bind (match P.info? t with | some d => (pure d : Sem TypeInfo) | none => _) fun i => pure i.size)
  rw [h]
  rfl
def Look {α : Type} : Sem α → Prop
  | .pure _ | .shape _ _ | .frozen _ _ | .halt _ => True
  | _ => False
theorem quiet_look {α β : Type} {k : α → Sem β} (hk : ∀ x, Quiet P (k x)) (hd : ∀ x, Dead P (k x)) : ∀ {s : Sem α}, Look s → Quiet P (s >>= k)
  | .pure x, _ => hk x
  | .shape _ _, _ => fun v => dead_bind2 hd
  | .frozen _ _, _ => fun v => dead_bind2 hd
  | .halt _, _ => trivial
def atom : Value → Bool
  | .int _ _ | .bool _ | .string _ => true
  | _ => false
def flat1 : Value → Bool
  | .agg xs => xs.toList.all atom
  | v => atom v
theorem flat_of {u v : Value} (h : u = v) (hv : flat1 v = true) : flat1 u = true := h ▸ hv
theorem y_part {t : TypeId} {xs : Array Value} {o : Nat} (h : xs.toList.all atom = true) : Yields P (fun v => flat1 v = true) (part t xs o) := by
  have h' : ∀ v ∈ xs.toList, atom v = true := List.all_eq_true.1 h
  unfold part
  have hc : ∀ b, Yields P (fun v => flat1 v = true) (if b = true then (do pure (Value.agg (xs.extract o (o + (← sizeOf t)))) : Sem Value) else match xs[o]? with | some v => pure v | none => stuck "part: no such cell") := fun b => by
    split
    · show Yields P _ (Sem.bind (Sem.bind (Sem.program fun p => _) _) _)
      simp only [Sem.bind, Yields]
      cases hi : P.info? t with
      | none => trivial
      | some i =>
        show flat1 (.agg _) = true
        simp only [flat1, List.all_eq_true]
        intro v hv
        refine h' v ?_
        simp only [Array.toList_extract, List.extract_eq_take_drop] at hv
        exact List.mem_of_mem_drop (List.mem_of_mem_take hv)
    · split
      · rename_i v hv
        have : atom v = true := h' v (Array.mem_toList_iff.2 (Array.mem_of_getElem? hv))
        show flat1 v = true
        unfold flat1
        cases v <;> first | exact this | (simp [atom] at this)
      · trivial
  have h1 : ∀ b, Yields P (fun v => flat1 v = true) ((pure b : Sem Bool) >>= fun b => if b = true then (do pure (Value.agg (xs.extract o (o + (← sizeOf t)))) : Sem Value) else match xs[o]? with | some v => pure v | none => stuck "part: no such cell") := hc
  unfold isAgg
  show Yields P _ (Sem.bind (Sem.bind (Sem.program fun p => _) _) _)
  simp only [Sem.bind, Yields]
  cases hu : P.underlying t with
  | none => trivial
  | some d =>
    show Yields P _ (Sem.bind (match d with | .struct _ | .array _ _ => pure true | _ => pure false) _)
    split <;> first | exact hc true | exact hc false
theorem q_forInL {α β : Type} {g : α → β → Sem (ForInStep β)} (hg : ∀ a b, Quiet P (g a b)) : ∀ (l : List α) (b : β), Quiet P (forIn l b g)
  | [], b => by rw [List.forIn_nil]; trivial
  | a :: l, b => by
    rw [List.forIn_cons]
    refine qb (hg a b) fun r => ?_
    cases r with
    | done b => trivial
    | yield b => exact q_forInL hg l b
theorem q_forInA {α β : Type} {g : α → β → Sem (ForInStep β)} (hg : ∀ a b, Quiet P (g a b)) (l : Array α) (b : β) : Quiet P (forIn l b g) := by
  rw [← Array.forIn_toList]
  exact q_forInL hg _ _
theorem q_forInR {β : Type} {g : Nat → β → Sem (ForInStep β)} (hg : ∀ a b, Quiet P (g a b)) (r : Std.Legacy.Range) (b : β) : Quiet P (forIn r b g) := by
  rw [Std.Legacy.Range.forIn_eq_forIn_range']
  exact q_forInL hg _ _
theorem q_equalIn : ∀ (d : Nat) (t : TypeId) (x y : Value), flat1 x = true → flat1 y = true → Quiet P (Op.equalIn d t x y)
  | 0, _, _, _, _, _ => trivial
  | d + 1, t, x, y, hx, hy => by
    unfold Op.equalIn
    refine qb (q_underlying t) fun u => ?_
    split <;> first
      | exact qp _
      | exact q_stuck _
      | (simp [flat1, atom] at hx; done)
      | (simp [flat1, atom] at hy; done)
      | (split <;> first | exact qp _ | exact q_stuck _)
      | skip
    · rename_i fields xs ys
      refine qb q_program fun p => ?_
      dsimp only
      split
      · refine qb (q_unsupported _) fun _ => ?_
        refine qb (q_forInA (fun f r => ?_) _ _) fun r => ?_
        · split
          · refine qby (q_part _ _ _) (y_part hx) fun a ha => qby (q_part _ _ _) (y_part hy) fun b hb => qb (q_equalIn d _ a b ha hb) fun e => ?_
            split <;> exact qp _
          · exact qp _
        · split <;> exact qp _
      · refine qb (q_forInA (fun f r => ?_) _ _) fun r => ?_
        · split
          · refine qby (q_part _ _ _) (y_part hx) fun a ha => qby (q_part _ _ _) (y_part hy) fun b hb => qb (q_equalIn d _ a b ha hb) fun e => ?_
            split <;> exact qp _
          · exact qp _
        · split <;> exact qp _
    · rename_i len elem xs ys
      refine qb (q_sizeOf _) fun m => ?_
      refine qb (q_forInR (fun f r => ?_) _ _) fun r => ?_
      · refine qby (q_part _ _ _) (y_part hx) fun a ha => qby (q_part _ _ _) (y_part hy) fun b hb => qb (q_equalIn d _ a b ha hb) fun e => ?_
        split <;> exact qp _
      · dsimp only
        split <;> exact qp _
theorem q_eqGuardIn : ∀ (d : Nat) (t : TypeId) (x y : Value), Quiet P (Op.eqGuardIn d t x y)
  | 0, _, _, _ => trivial
  | d + 1, t, x, y => by
    unfold Op.eqGuardIn
    refine qb (q_underlying t) fun u => ?_
    split
    · exact qp _
    · refine qb (q_forInA (fun f r => ?_) _ _) fun r => ?_
      · split
        · refine qb (q_part _ _ _) fun a => qb (q_part _ _ _) fun b => qb (q_eqGuardIn d _ a b) fun e => ?_
          split <;> exact qp _
        · exact qp _
      · dsimp only
        split <;> exact qp _
    · refine qb (q_sizeOf _) fun m => ?_
      refine qb (q_forInR (fun f r => ?_) _ _) fun r => ?_
      · refine qb (q_part _ _ _) fun a => qb (q_part _ _ _) fun b => qb (q_eqGuardIn d _ a b) fun e => ?_
        split <;> exact qp _
      · dsimp only
        split <;> exact qp _
    · exact qp _
theorem q_eqGuard (op : BinOp) (t : TypeId) (x y : Operand) (a b : Value) : Quiet P (eqGuard op t x y a b) := by
  unfold eqGuard
  repeat' (first | with_reducible exact qp _ | with_reducible exact q_stuck _ | with_reducible exact q_unsupported _ | with_reducible exact q_goPanic _ | with_reducible exact qh _ | with_reducible exact q_program | with_reducible exact q_choose _ | with_reducible exact q_load _ | with_reducible exact q_store _ _ | with_reducible exact q_typeInfo _ | with_reducible exact q_underlying _ | with_reducible exact q_zeroValue _ | with_reducible exact q_sizeOf _ | with_reducible exact q_isAgg _ | with_reducible exact q_loadCells _ _ | with_reducible exact q_storeCells _ _ _ | with_reducible exact q_loadVar _ _ | with_reducible exact q_storeVar _ _ _ | with_reducible exact q_newRow _ _ | with_reducible exact q_newVar _ _ | with_reducible exact q_elemOf _ | with_reducible exact q_runtimePanic _ | with_reducible exact q_asIntOf _ | with_reducible exact q_asInt _ | with_reducible exact q_asBool _ | with_reducible exact q_asAddr _ | with_reducible exact q_sureAddr _ | with_reducible exact q_part _ _ _ | with_reducible exact q_boundsPanic _ _ _ _ | with_reducible exact q_askRoom _ | with_reducible exact q_eqGuardIn _ _ _ _ | with_reducible refine qb ?_ (fun _ => ?_) | with_reducible refine qm _ ?_ | split | dsimp only)
theorem q_intArith (op : BinOp) (k : IntKind) (x y : Int) : Quiet P (Op.intArith op k x y) := by
  unfold Op.intArith
  split <;> trivial
theorem q_intDiv (op : BinOp) (k : IntKind) (x y : Int) : Quiet P (Op.intDiv op k x y) := by
  unfold Op.intDiv
  repeat' (first | with_reducible exact qp _ | with_reducible exact q_stuck _ | with_reducible exact q_unsupported _ | with_reducible exact q_goPanic _ | with_reducible exact qh _ | with_reducible exact q_program | with_reducible exact q_choose _ | with_reducible exact q_load _ | with_reducible exact q_store _ _ | with_reducible exact q_typeInfo _ | with_reducible exact q_underlying _ | with_reducible exact q_zeroValue _ | with_reducible exact q_sizeOf _ | with_reducible exact q_isAgg _ | with_reducible exact q_loadCells _ _ | with_reducible exact q_storeCells _ _ _ | with_reducible exact q_loadVar _ _ | with_reducible exact q_storeVar _ _ _ | with_reducible exact q_newRow _ _ | with_reducible exact q_newVar _ _ | with_reducible exact q_elemOf _ | with_reducible exact q_runtimePanic _ | with_reducible exact q_asIntOf _ | with_reducible exact q_asInt _ | with_reducible exact q_asBool _ | with_reducible exact q_asAddr _ | with_reducible exact q_sureAddr _ | with_reducible exact q_part _ _ _ | with_reducible exact q_boundsPanic _ _ _ _ | with_reducible exact q_askRoom _ | with_reducible refine qb ?_ (fun _ => ?_) | with_reducible refine qm _ ?_ | split | dsimp only)
theorem q_intBits (op : BinOp) (k : IntKind) (x y : Int) : Quiet P (Op.intBits op k x y) := by
  unfold Op.intBits
  dsimp only
  split <;> trivial
theorem q_intCmp (op : BinOp) (x y : Int) : Quiet P (Op.intCmp op x y) := by
  unfold Op.intCmp
  split <;> trivial
theorem q_shift (op : BinOp) (k yk : IntKind) (x y : Int) : Quiet P (Op.shift op k x yk y) := by
  unfold Op.shift
  repeat' (first | with_reducible exact qp _ | with_reducible exact q_stuck _ | with_reducible exact q_unsupported _ | with_reducible exact q_goPanic _ | with_reducible exact qh _ | with_reducible exact q_program | with_reducible exact q_choose _ | with_reducible exact q_load _ | with_reducible exact q_store _ _ | with_reducible exact q_typeInfo _ | with_reducible exact q_underlying _ | with_reducible exact q_zeroValue _ | with_reducible exact q_sizeOf _ | with_reducible exact q_isAgg _ | with_reducible exact q_loadCells _ _ | with_reducible exact q_storeCells _ _ _ | with_reducible exact q_loadVar _ _ | with_reducible exact q_storeVar _ _ _ | with_reducible exact q_newRow _ _ | with_reducible exact q_newVar _ _ | with_reducible exact q_elemOf _ | with_reducible exact q_runtimePanic _ | with_reducible exact q_asIntOf _ | with_reducible exact q_asInt _ | with_reducible exact q_asBool _ | with_reducible exact q_asAddr _ | with_reducible exact q_sureAddr _ | with_reducible exact q_part _ _ _ | with_reducible exact q_boundsPanic _ _ _ _ | with_reducible exact q_askRoom _ | with_reducible refine qb ?_ (fun _ => ?_) | with_reducible refine qm _ ?_ | split | dsimp only)
theorem q_stringOp (op : BinOp) (x y : ByteArray) : Quiet P (Op.stringOp op x y) := by
  unfold Op.stringOp
  repeat' (first | with_reducible exact qp _ | with_reducible exact q_stuck _ | with_reducible exact q_unsupported _ | with_reducible exact q_goPanic _ | with_reducible exact qh _ | with_reducible exact q_program | with_reducible exact q_choose _ | with_reducible exact q_load _ | with_reducible exact q_store _ _ | with_reducible exact q_typeInfo _ | with_reducible exact q_underlying _ | with_reducible exact q_zeroValue _ | with_reducible exact q_sizeOf _ | with_reducible exact q_isAgg _ | with_reducible exact q_loadCells _ _ | with_reducible exact q_storeCells _ _ _ | with_reducible exact q_loadVar _ _ | with_reducible exact q_storeVar _ _ _ | with_reducible exact q_newRow _ _ | with_reducible exact q_newVar _ _ | with_reducible exact q_elemOf _ | with_reducible exact q_runtimePanic _ | with_reducible exact q_asIntOf _ | with_reducible exact q_asInt _ | with_reducible exact q_asBool _ | with_reducible exact q_asAddr _ | with_reducible exact q_sureAddr _ | with_reducible exact q_part _ _ _ | with_reducible exact q_boundsPanic _ _ _ _ | with_reducible exact q_askRoom _ | with_reducible refine qb ?_ (fun _ => ?_) | with_reducible refine qm _ ?_ | split | dsimp only)
theorem q_binOp (op : BinOp) (t : TypeId) (x y : Value) (hx : flat1 x = true) (hy : flat1 y = true) : Quiet P (binOp op t x y) := by
  have he : Quiet P (Op.equal t x y) := q_equalIn _ t x y hx hy
  unfold binOp
  split <;> first
    | exact q_shift _ _ _ _ _
    | (split
       · exact q_stuck _
       · split <;> first | exact q_intArith _ _ _ _ | exact q_intDiv _ _ _ _ | exact q_intBits _ _ _ _ | exact q_intCmp _ _ _)
    | exact q_stringOp _ _ _
    | exact qb he fun _ => qp _
    | exact q_unsupported _
    | exact q_stuck _
    | (simp [flat1, atom] at hx; done)
    | (simp [flat1, atom] at hy; done)
variable {f : Fr} {d : Option Nat} {ty : TypeId} {pos : String} {aft : Array Edge} {g : Option (Nat × Bool)}
theorem qv {s : Sem Value} (h : Quiet P s) : Quiet P (do pure (Next.value (← s)) : Sem Next) := qb h fun _ => trivial
theorem qo_bin {bo : BinOp} {xt yt : TypeId} {x y : Operand} (hx : flat1 (ev f x) = true) (hy : flat1 (ev f y) = true) : Quiet P (execOp (ev f) ⟨d, .binOp bo xt x y yt, ty, pos, aft, g⟩) :=
  qv (qb (q_eqGuard ..) fun _ => q_binOp _ _ _ _ hx hy)
theorem q_fieldPlace (a : Addr) (fl : Field) (i : TypeInfo) (hi : P.info? fl.type = some i) (h0 : ¬ i.size = 0) : Quiet P (fieldPlace a fl) := by
  unfold fieldPlace
  refine qby (q_sizeOf _) (y_sizeOf hi) fun m hm => ?_
  subst hm
  rw [if_neg h0]
  exact qp _
theorem q_fieldAt {s k j : Nat} (h : fieldOff P s k = some j) (v : Value) : Quiet P (Instr.fieldAt s v k) := by
  unfold fieldOff at h
  split at h
  · rename_i fs hu
    split at h
    · rename_i fl hfl
      split at h
      · rename_i i hi
        split at h
        · cases h
        · rename_i hz
          unfold Instr.fieldAt
          refine qby (q_underlying _) (y_underlying hu) fun u hu => ?_
          subst hu
          simp only [hfl]
          exact qb (q_sureAddr _) fun a => qb (q_fieldPlace a fl i hi hz) fun _ => qp _
      · cases h
    · cases h
  · cases h
theorem q_len {t et : TypeId} {x : Value} (h : ∀ r, x ≠ .map (some r) ∧ x ≠ .chan (some r)) : Quiet P (Builtin.len_ #[t] et #[x]) := by
  unfold Builtin.len_
  simp only [List.getElem?_toArray, List.getElem?_cons_zero]
  refine qb (q_underlying _) fun u => ?_
  split <;> first
    | exact qp _
    | exact q_stuck _
    | exact absurd rfl (h _).1
    | exact absurd rfl (h _).2
    | repeat' (first | with_reducible exact qp _ | with_reducible exact q_stuck _ | with_reducible exact q_unsupported _ | with_reducible exact q_goPanic _ | with_reducible exact qh _ | with_reducible exact q_program | with_reducible exact q_choose _ | with_reducible exact q_load _ | with_reducible exact q_store _ _ | with_reducible exact q_typeInfo _ | with_reducible exact q_underlying _ | with_reducible exact q_zeroValue _ | with_reducible exact q_sizeOf _ | with_reducible exact q_isAgg _ | with_reducible exact q_loadCells _ _ | with_reducible exact q_storeCells _ _ _ | with_reducible exact q_loadVar _ _ | with_reducible exact q_storeVar _ _ _ | with_reducible exact q_newRow _ _ | with_reducible exact q_newVar _ _ | with_reducible exact q_elemOf _ | with_reducible exact q_runtimePanic _ | with_reducible exact q_asIntOf _ | with_reducible exact q_asInt _ | with_reducible exact q_asBool _ | with_reducible exact q_asAddr _ | with_reducible exact q_sureAddr _ | with_reducible exact q_part _ _ _ | with_reducible exact q_boundsPanic _ _ _ _ | with_reducible exact q_askRoom _ | with_reducible refine qb ?_ (fun _ => ?_) | with_reducible refine qm _ ?_ | split | dsimp only)
theorem q_intToInt (k : IntKind) (n : Int) : Quiet P (Conv.intToInt k n) := trivial
theorem q_convInt {s t : TypeId} {k k' : IntKind} {a : Int} (hs : (P.underlying s).isSome = true) (ht : P.underlying t = some (.int k')) : Quiet P (convert s t (.int k a)) := by
  obtain ⟨ds, hs'⟩ := Option.isSome_iff_exists.1 hs
  unfold convert
  refine qby (q_underlying _) (y_underlying hs') fun u hu => qby (q_underlying _) (y_underlying ht) fun u2 hu2 => ?_
  subst hu
  subst hu2
  cases u <;> exact q_intToInt _ _
theorem q_firstCells (size n : Nat) (v : Value) : Quiet P (Builtin.firstCells size n v) := by
  unfold Builtin.firstCells
  split
  · exact q_loadCells _ _
  · exact qp _
  · exact qp _
  · exact q_stuck _
theorem q_lenOf (v : Value) : Quiet P (Builtin.lenOf v) := by
  unfold Builtin.lenOf
  split <;> first | exact qp _ | exact q_stuck _
theorem look_mayShare (size sLen n : Nat) (base : Option Addr) (x : Value) : Look (Builtin.mayShare size sLen n base x) := by
  unfold Builtin.mayShare
  cases base with
  | some a => trivial
  | none =>
    show Look (match x with | .slice (some b) _ _ => _ | _ => _)
    split <;> trivial
theorem dead_noRoom {α : Type} (r : Bool) (u : Unsupported) : Dead P (if (!r) = true then mark .noRoom >>= fun _ => unsupported u else unsupported u : Sem α) := by
  cases r <;> trivial
theorem quiet_noRoom {α : Type} (r : Bool) (u : Unsupported) : Quiet P (if (!r) = true then mark .noRoom >>= fun _ => unsupported u else unsupported u : Sem α) := by
  cases r
  · exact Or.inl ⟨rfl, trivial⟩
  · trivial
theorem q_append {t e et : TypeId} (hu : P.underlying t = some (.slice e)) (x y : Value) : Quiet P (Builtin.append_ #[t, t] et #[x, y]) := by
  unfold Builtin.append_
  simp only [List.getElem?_toArray, List.getElem?_cons_zero, List.getElem?_cons_succ]
  refine qby (q_underlying _) (y_underlying hu) fun u hu' => ?_
  subst hu'
  dsimp only
  split
  · rename_i base sLen sCap
    refine qb (q_sizeOf _) fun size => ?_
    refine qby (q_underlying _) (y_underlying hu) fun u hu' => ?_
    subst hu'
    refine qby (R := (· = false)) (qp _) rfl fun z hz => ?_
    subst hz
    simp only [Bool.false_eq_true, if_false, Bool.not_false, if_true, false_or]
    repeat' (first | with_reducible exact qp _ | with_reducible exact q_stuck _ | with_reducible exact q_unsupported _ | with_reducible exact q_goPanic _ | with_reducible exact qh _ | with_reducible exact q_program | with_reducible exact q_choose _ | with_reducible exact q_load _ | with_reducible exact q_store _ _ | with_reducible exact q_typeInfo _ | with_reducible exact q_underlying _ | with_reducible exact q_zeroValue _ | with_reducible exact q_sizeOf _ | with_reducible exact q_isAgg _ | with_reducible exact q_loadCells _ _ | with_reducible exact q_storeCells _ _ _ | with_reducible exact q_loadVar _ _ | with_reducible exact q_storeVar _ _ _ | with_reducible exact q_newRow _ _ | with_reducible exact q_newVar _ _ | with_reducible exact q_elemOf _ | with_reducible exact q_runtimePanic _ | with_reducible exact q_asIntOf _ | with_reducible exact q_asInt _ | with_reducible exact q_asBool _ | with_reducible exact q_asAddr _ | with_reducible exact q_sureAddr _ | with_reducible exact q_part _ _ _ | with_reducible exact q_boundsPanic _ _ _ _ | with_reducible exact q_askRoom _ | with_reducible exact q_firstCells _ _ _ | with_reducible exact q_lenOf _ | with_reducible exact quiet_look (fun r => quiet_noRoom r _) (fun r => dead_noRoom r _) (look_mayShare _ _ _ _ _) | with_reducible refine qb ?_ (fun _ => ?_) | with_reducible refine qm _ ?_ | split | dsimp only)
  · exact q_stuck _
end
end Go.Dw.J
end
section
namespace Go.Dw
section
variable {ts : List Th} {q : Cl}
def Like (a b : Th) : Prop := b.kind = a.kind ∧ b.lab = a.lab ∧ b.to = a.to ∧ a.ve ≤ b.ve
theorem Like.refl (a : Th) : Like a a := ⟨rfl, rfl, rfl, Int.le_refl _⟩
theorem Like.trans {a b c : Th} (h : Like a b) (k : Like b c) : Like a c := ⟨k.1.trans h.1, k.2.1.trans h.2.1, k.2.2.1.trans h.2.2.1, Int.le_trans h.2.2.2 k.2.2.2⟩
theorem TabG.nil {lo : Nat} {w : World} {a : Option Addr} : TabG lo w a [] := ⟨fun k x h => by simp at h, fun m hm => by cases hm⟩
end
end Go.Dw
end
section
namespace Go.Dw
set_option linter.unusedVariables false
set_option linter.unusedSimpArgs false
section
variable {ts : List Th} {q : Cl}
def Kept (n : Int) (a b : Th) : Prop := (a.kind = 1 → b.num = a.num ∨ b.num = 0 ∨ b.num = n ∨ b.num = n % 2) ∧ ∀ v ∈ b.queue, v = n ∨ v ∈ a.queue
theorem Kept.refl (n : Int) (a : Th) : Kept n a a := ⟨fun _ => Or.inl rfl, fun _ h => Or.inr h⟩
section
variable {ms xs : List MTh}
end
end
end Go.Dw
end
section
namespace Go.Dw
set_option linter.unusedVariables false
set_option linter.unusedSimpArgs false
def RowsA (w : World) (l : List MTh) : Prop := ∀ m ∈ l, ThAt w m
theorem RowsA.of {w : World} {a : Option Addr} {l : List MTh} (h : TabAt w a l) : RowsA w l := h.2
theorem RowsA.set {w : World} {l : List MTh} {i : Nat} {m : MTh} (h : RowsA w l) (hi : i < l.length) (e : m.sa = (mAt l i).sa ∧ m.sc = (mAt l i).sc ∧ m.qa = (mAt l i).qa ∧ m.qc = (mAt l i).qc ∧ m.t.slots = (mAt l i).t.slots ∧ m.t.queue = (mAt l i).t.queue) : RowsA w (l.set i m) := fun x hx => by
  rcases List.mem_or_eq_of_mem_set hx with h1 | rfl
  · exact h x h1
  · have := h _ (List.mem_of_getElem? (mAt_get hi))
    unfold ThAt at this ⊢
    rw [e.1, e.2.1, e.2.2.1, e.2.2.2.1, e.2.2.2.2.1, e.2.2.2.2.2]
    exact this
theorem TabLen.put {l : List MTh} {i : Nat} {m : MTh} (h : TabLen l) (hm : m.t.slots.length ≤ 1048576 ∧ m.t.queue.length ≤ 1048576) : TabLen (l.set i m) := fun x hx => by
  rcases List.mem_or_eq_of_mem_set hx with h1 | rfl
  · exact h x h1
  · exact hm
section
variable {ms xs : List MTh} {q : Cl}
end
end Go.Dw
end
section
namespace Go.Dw
open Go.RowKit
set_option linter.unusedVariables false
structure NewO (w w' : World) (B : Nat) (T : TypeId) (sz cap n : Nat) (vs : List Value) : Prop where
  eq : B = w.heap.size
  own : Own w' B T sz cap n vs
  grw : w.grownBy w' none
section
variable {P : Program} {n : Nat} {ops : Array Oper} {K : Fr → World → Prop} {l : List Oper} {f : Fr} {w w' : World} {d : Nat} {ty : TypeId} {pos : String} {aft : Array Edge}
end
section
variable {ms : List MTh} {X : MTh} {k : Int} {l : Lab}
end
end Go.Dw
end
section
namespace Go.Dw.J
open Go.Dw Go.RowKit
set_option linter.unusedVariables false
set_option linter.unusedSimpArgs false
set_option linter.unusedSectionVars false
section
variable {A A1 : World}
theorem Ext.cell (h : Ext A A1) {a : Addr} {v : Value} (hc : A.cell? a = some v) : A1.cell? a = some v := by
  obtain ⟨c, T, fr, h1, h2, h3⟩ := cell_obj hc
  exact cell_of (by rw [h.get (Array.getElem?_eq_some_iff.1 h1).1]; exact h1) h2 h3
theorem Ext.range (h : Ext A A1) {b o : Nat} {vs : List Value} (hr : A.rangeAt b o vs) : A1.rangeAt b o vs := fun j v hj => h.cell (hr j v hj)
theorem Ext.blk (h : Ext A A1) {b : Nat} {T : TypeId} {cs : Array Value} (hb : Blk A b T cs) : Blk A1 b T cs := (h.get hb.lt).trans hb
theorem Ext.sl (h : Ext A A1) {a : Option Addr} {sz : Nat} {xs : List (List Value)} (hs : SlAt A a sz xs) : SlAt A1 a sz xs := fun k x hk => by
  obtain ⟨b, o, e, hr⟩ := hs k x hk
  exact ⟨b, o, e, h.range hr⟩
theorem Ext.grow {A' : World} {r : Option Nat} (h : Ext A A1) (hg : A1.grownBy A' r) : A.grownBy (Go.Dw.J.norm A A') r :=
  ⟨hg.os.trans h.choose_spec.2.1, rfl, hg.output.trans h.choose_spec.2.2, Nat.le_trans h.size hg.size, fun b hb hne => (hg.block b (Nat.lt_of_lt_of_le hb h.size) hne).trans (h.get hb)⟩
theorem Ext.grown0 (h : Ext A A1) : A.grownBy { A1 with tape := A.tape } none := ⟨h.choose_spec.2.1, rfl, h.choose_spec.2.2, h.size, fun b hb _ => h.get hb⟩
theorem Ext.own (h : Ext A A1) {B : Nat} {T : TypeId} {sz cap n : Nat} {vs : List Value} (ho : Own A B T sz cap n vs) : Own A1 B T sz cap n vs := by
  have := Own.grown0 ho (grown0 h)
  exact this
theorem Ext.ownN (h : Ext A A1) {lo : Nat} {a : Option Addr} {T : TypeId} {sz cap n : Nat} {vs : List Value} (ho : OwnN lo A a T sz cap n vs) : OwnN lo A1 a T sz cap n vs := by
  have := OwnN.grown0 ho (grown0 h)
  exact this
end
structure NewB (w w' : World) (B : Nat) (T : TypeId) (cs : Array Value) : Prop where
  ge : w.heap.size ≤ B
  blk : Blk w' B T cs
  grw : w.grownBy w' none
structure SetB (w w' : World) (b : Nat) (T : TypeId) (cs : Array Value) : Prop where
  blk : Blk w' b T cs
  grw : w.grownBy w' (some b)
structure NewO (w w' : World) (B : Nat) (T : TypeId) (sz cap n : Nat) (vs : List Value) : Prop where
  ge : w.heap.size ≤ B
  own : Own w' B T sz cap n vs
  grw : w.grownBy w' none
theorem NewB.of {w A1 w' : World} {B : Nat} {T : TypeId} {cs : Array Value} (hE : Ext w A1) (h : Go.Dw.NewB A1 w' B T cs) : NewB w (norm w w') B T cs := ⟨by rw [h.eq]; exact hE.size, h.blk, hE.grow h.grw⟩
theorem SetB.of {w A1 w' : World} {b : Nat} {T : TypeId} {cs : Array Value} (hE : Ext w A1) (h : Go.Dw.SetB A1 w' b T cs) : SetB w (norm w w') b T cs := ⟨h.blk, hE.grow h.grw⟩
theorem NewO.of {w A1 w' : World} {B : Nat} {T : TypeId} {sz cap n : Nat} {vs : List Value} (hE : Ext w A1) (h : Go.Dw.NewO A1 w' B T sz cap n vs) : NewO w (norm w w') B T sz cap n vs := ⟨by rw [h.eq]; exact hE.size, h.own, hE.grow h.grw⟩
theorem hN_ge {w a b : World} {r : Option Nat} {B : Nat} {T : TypeId} {cs : Array Value} (h : NewB a b B T cs) (hl : w.grownBy a r) : w.heap.size ≤ B := Nat.le_trans hl.size h.ge
theorem hN_gtl {a b : World} {B C : Nat} {T : TypeId} {cs : Array Value} (h : NewB a b B T cs) (hk : C < a.heap.size) : C < B := Nat.lt_of_lt_of_le hk h.ge
def Plain (s : Sem Next) : Prop := ∀ P w x w', s.run P w = .ok x w' → (∃ v, x = .value v) ∨ x = .skip
theorem plain_p (v : Value) : Plain (pure (.value v)) := fun P w x w' h => by
  simp only [Sem.run_pure, Result.ok.injEq] at h
  exact Or.inl ⟨v, h.1.symm⟩
theorem plain_b {α : Type} {s : Sem α} {k : α → Sem Next} (hk : ∀ x, Plain (k x)) : Plain (s >>= k) := fun P w x w' h => by
  rw [Sem.run_bind] at h
  cases hs : s.run P w with
  | ok y w1 => rw [hs] at h; exact hk y P w1 x w' h
  | halt e w1 => rw [hs] at h; cases h
theorem plain_v (s : Sem Value) : Plain (do pure (.value (← s))) := plain_b fun _ => plain_p _
theorem plain_u (s : Sem Unit) : Plain (do s; pure .skip) := plain_b fun _ P w x w' h => by
  simp only [Sem.run_pure, Result.ok.injEq] at h
  exact Or.inr h.1.symm
theorem qu {P : Program} {s : Sem Unit} (h : Quiet P s) : Quiet P (do s; pure .skip : Sem Next) := qb h fun _ => trivial
section
variable {P : Program} {f : Fr} {d : Option Nat} {ty : TypeId} {pos : String} {aft : Array Edge} {g : Option (Nat × Bool)}
theorem q_callb {b : Builtin} {args : Array Operand} {tys : Array TypeId} (h : Quiet P (builtin b tys ty (args.map fun | .const _ => true | _ => false) (args.map (ev f)))) : Quiet P (execOp (ev f) ⟨d, .call ⟨.builtin b, args, tys⟩, ty, pos, aft, g⟩) := h
theorem plain_len {args : Array Operand} {tys : Array TypeId} : Plain (execOp (ev f) ⟨d, .call ⟨.builtin .len, args, tys⟩, ty, pos, aft, g⟩) := plain_v (Builtin.len_ tys ty (args.map (ev f)))
theorem plain_append {args : Array Operand} {tys : Array TypeId} : Plain (execOp (ev f) ⟨d, .call ⟨.builtin .append, args, tys⟩, ty, pos, aft, g⟩) := plain_v (Builtin.append_ tys ty (args.map (ev f)))
end
theorem mkTy_sl {P : Program} {t e sz bytes : Nat} {z : Option Value} (h : mkTy P t = some (e, sz, bytes, z)) : P.underlying t = some (.slice e) := by
  unfold mkTy at h
  split at h
  · rename_i el hu
    cases hq : P.info? el with
    | none => rw [hq] at h; cases h
    | some i =>
      rw [hq] at h
      simp only [Option.map_some, Option.some.injEq, Prod.mk.injEq] at h
      rw [hu, h.1]
  · cases h
section
variable [Comp] {P : Program} {n : Nat} {ops : Array Oper} {K : Fr → World → Prop} {l : List Oper} {f : Fr} {A : World} {o : Oper}
theorem execOp_congr {ρ : Operand → Value} {o o' : Oper} (h1 : o'.op = o.op) (h2 : o'.type = o.type) : execOp ρ o' = execOp ρ o := by
  unfold execOp
  rw [h1, h2]
theorem keep {A A1 : World} (hE : Ext A A1) (h : WpO P n ops K l f A) : WpO P n ops K l f (norm A A1) := h.ext hE.norm rfl
theorem lone_op {K' : Fr → World → Prop} {A1 : World} {a : Act} (hg : o.guard = none) (hp : Plain (execOp (ev f) o)) (ha : FEq n a f) (h : Go.Dw.WpO P n ops K' [o] f A1) :
    ∃ x A1', (execOp a.eval o).run P A1 = .ok x A1' ∧ ((∃ v, x = .value v ∧ ∃ f', FEq n (a.put o.dst v) f' ∧ K' f' A1') ∨ (x = .skip ∧ ∃ f', FEq n (a.put o.dst undef) f' ∧ K' f' A1')) := by
  have h1 := h a ha (fun e a' w' => match e with | .normal => ∃ f', FEq n a' f' ∧ K' f' w' | _ => False) (fun a' w' f' hf hK => ⟨f', hf, hK⟩)
  unfold wpList at h1
  rw [if_pos (by simp [Region.wanted, hg])] at h1
  rcases h1 with h1 | ⟨_, a0, w0, h0⟩
  · unfold Oper.wp at h1
    rw [ha.eval] at h1 ⊢
    cases hr : (execOp (ev f) o).run P A1 with
    | ok x A1' =>
      rw [hr] at h1
      refine ⟨x, A1', rfl, ?_⟩
      rcases hp P A1 x A1' hr with ⟨v, rfl⟩ | rfl
      · exact Or.inl ⟨v, rfl, h1⟩
      · exact Or.inr ⟨rfl, h1⟩
    | halt e A1' =>
      rw [hr] at h1
      cases e <;> exact h1.elim
  · exact h0.elim
theorem jop (hg : o.guard = none) (hq : Quiet P (execOp (ev f) o)) (hp : Plain (execOp (ev f) o)) (h : ∀ A1, Ext A A1 → Go.Dw.WpO P n ops (fun f' A1' => WpO P n ops K l f' (norm A A1')) [o] f A1) : WpO P n ops K (o :: l) f A := fun a ha =>
  Or.inl ⟨by simp [Region.wanted, hg], Or.inl ⟨by rw [ha.eval]; exact hq, fun A1 hE => by
    obtain ⟨x, A1', hr, hx⟩ := lone_op hg hp ha (h A1 hE)
    rcases hx with ⟨v, e, f', hf, hK⟩ | ⟨e, f', hf, hK⟩
    · exact ⟨x, v, A1', hr, Or.inl e, f', hf, hK⟩
    · exact ⟨x, undef, A1', hr, Or.inr ⟨e, rfl⟩, f', hf, hK⟩⟩⟩
end
section
variable [Comp] {P : Program} {n : Nat} {ops : Array Oper} {K : Fr → World → Prop} {l : List Oper} {f : Fr} {w w' : World} {ty : TypeId} {pos : String} {aft : Array Edge} {d : Nat}
theorem wpo_move {x : Operand} {v : Value} (hx : ev f x = v) (hd : Nat.blt d n = true) (h : WpO P n ops K l (up f d v) w) : WpO P n ops K (⟨some d, .move x, ty, pos, aft, none⟩ :: l) f w :=
  jop rfl (qp _) (plain_p _) fun A1 hE => Go.Dw.wpo_move hx hd (Go.Dw.wpo_nil (keep hE h))
theorem wpo_assign {x : Operand} {v : Value} (hx : ev f x = v) (hd : Nat.blt d n = true) (h : WpO P n ops K l (up f d v) w) : WpO P n ops K (⟨some d, .assign x, ty, pos, aft, none⟩ :: l) f w :=
  jop rfl (qp _) (plain_p _) fun A1 hE => Go.Dw.wpo_assign hx hd (Go.Dw.wpo_nil (keep hE h))
theorem wpo_pickt {c x y : Operand} {b : Bool} {v : Value} (hc : ev f c = .bool b) (hb : b = true) (hx : ev f x = v) (hd : Nat.blt d n = true) (h : WpO P n ops K l (up f d v) w) : WpO P n ops K (⟨some d, .pick c x y, ty, pos, aft, none⟩ :: l) f w :=
  jop rfl (qb (q_asBool _) fun _ => qp _) (plain_b fun _ => plain_p _) fun A1 hE => Go.Dw.wpo_pickt hc hb hx hd (Go.Dw.wpo_nil (keep hE h))
theorem wpo_pickf {c x y : Operand} {b : Bool} {v : Value} (hc : ev f c = .bool b) (hb : b = false) (hy : ev f y = v) (hd : Nat.blt d n = true) (h : WpO P n ops K l (up f d v) w) : WpO P n ops K (⟨some d, .pick c x y, ty, pos, aft, none⟩ :: l) f w :=
  jop rfl (qb (q_asBool _) fun _ => qp _) (plain_b fun _ => plain_p _) fun A1 hE => Go.Dw.wpo_pickf hc hb hy hd (Go.Dw.wpo_nil (keep hE h))
theorem wpo_box {T : TypeId} {x : Operand} {v : Value} {cs : Array Value} (hx : ev f x = v) (hcs : v.cells = cs) (hd : Nat.blt d n = true) (h : ∀ B w', NewB w w' B T cs → WpO P n ops K l (up f d (.pointer (some ⟨B, 0, none⟩))) w') : WpO P n ops K (⟨some d, .box T x, ty, pos, aft, none⟩ :: l) f w :=
  jop rfl (qv (q_box _ _)) (plain_v _) fun A1 hE => Go.Dw.wpo_box hx hcs hd (fun B w' hN => Go.Dw.wpo_nil (h B (norm w w') (NewB.of hE hN)))
theorem wpo_alloc {T : TypeId} {z : Value} {cs : Array Value} (hz : zeroTy P T = some z) (hcs : z.cells = cs) (hd : Nat.blt d n = true) (h : ∀ B w', NewB w w' B T cs → WpO P n ops K l (up f d (.pointer (some ⟨B, 0, none⟩))) w') : WpO P n ops K (⟨some d, .alloc T, ty, pos, aft, none⟩ :: l) f w :=
  jop rfl (qv (q_alloc _)) (plain_v _) fun A1 hE => Go.Dw.wpo_alloc hz hcs hd (fun B w' hN => Go.Dw.wpo_nil (h B (norm w w') (NewB.of hE hN)))
theorem wpo_load1 {t : TypeId} {x : Operand} {a : Addr} {v : Value} (ht : oneTy P t = true) (hx : ev f x = .pointer (some a)) (hc : w.cell? a = some v) (hd : Nat.blt d n = true) (h : WpO P n ops K l (up f d v) w) : WpO P n ops K (⟨some d, .load t x, ty, pos, aft, none⟩ :: l) f w :=
  jop rfl (qv (q_loadAt _ _)) (plain_v _) fun A1 hE => Go.Dw.wpo_load1 ht hx (hE.cell hc) hd (Go.Dw.wpo_nil (keep hE h))
theorem wpo_loadn {t k b o : Nat} {x : Operand} {vs : List Value} (ht : rowTy P t = some k) (hx : ev f x = .pointer (some ⟨b, o, none⟩)) (hl : vs.length = k) (hr : w.rangeAt b o vs) (hd : Nat.blt d n = true) (h : WpO P n ops K l (up f d (.agg vs.toArray)) w) : WpO P n ops K (⟨some d, .load t x, ty, pos, aft, none⟩ :: l) f w :=
  jop rfl (qv (q_loadAt _ _)) (plain_v _) fun A1 hE => Go.Dw.wpo_loadn ht hx hl (hE.range hr) hd (Go.Dw.wpo_nil (keep hE h))
theorem wpo_store1 {t b o : Nat} {x y : Operand} {T : TypeId} {cs cs' : Array Value} {v : Value} (ht : oneTy P t = true) (hx : ev f x = .pointer (some ⟨b, o, none⟩)) (hy : ev f y = v) (h1 : v.oneCell' = true) (hb : Blk w b T cs) (ho : o < cs.size) (hcs : cs.setIfInBounds o v = cs') (h : ∀ w', SetB w w' b T cs' → WpO P n ops K l f w') : WpO P n ops K (⟨none, .store t x y, ty, pos, aft, none⟩ :: l) f w :=
  jop rfl (qu (q_storeAt _ _ _)) (plain_u _) fun A1 hE => Go.Dw.wpo_store1 ht hx hy h1 (hE.blk hb) ho hcs (fun w' hS => Go.Dw.wpo_nil (h (norm w w') (SetB.of hE hS)))
theorem wpo_storen {t k b o : Nat} {x y : Operand} {T : TypeId} {cs cs' : Array Value} {vs : List Value} (ht : rowTy P t = some k) (hx : ev f x = .pointer (some ⟨b, o, none⟩)) (hy : ev f y = .agg vs.toArray) (hl : vs.length = k) (h1 : ∀ v ∈ vs, v.oneCell' = true) (hb : Blk w b T cs) (ho : o + k ≤ cs.size) (hcs : (cs.toList.take o ++ vs ++ cs.toList.drop (o + k)).toArray = cs') (h : ∀ w', SetB w w' b T cs' → WpO P n ops K l f w') : WpO P n ops K (⟨none, .store t x y, ty, pos, aft, none⟩ :: l) f w :=
  jop rfl (qu (q_storeAt _ _ _)) (plain_u _) fun A1 hE => Go.Dw.wpo_storen ht hx hy hl h1 (hE.blk hb) ho hcs (fun w' hS => Go.Dw.wpo_nil (h (norm w w') (SetB.of hE hS)))
theorem wpo_fieldAddr {s k j b o o' : Nat} {x : Operand} (hf : fieldOff P s k = some j) (hx : ev f x = .pointer (some ⟨b, o, none⟩)) (e : o + j = o') (hd : Nat.blt d n = true) (h : WpO P n ops K l (up f d (.pointer (some ⟨b, o', none⟩))) w) : WpO P n ops K (⟨some d, .fieldAddr s x k, ty, pos, aft, none⟩ :: l) f w :=
  jop rfl (qv (q_fieldAt hf _)) (plain_v _) fun A1 hE => Go.Dw.wpo_fieldAddr hf hx e hd (Go.Dw.wpo_nil (keep hE h))
theorem wpo_indexAddr {t sz b o o' len cap : Nat} {x y : Operand} {k : IntKind} {i : Int} (ht : elemSz P t = some sz) (hx : ev f x = .slice (some ⟨b, o, none⟩) len cap) (hy : ev f y = .int k i) (h0 : 0 ≤ i) (h1 : i < len) (e : o + i.toNat * sz = o') (hd : Nat.blt d n = true) (h : WpO P n ops K l (up f d (.pointer (some ⟨b, o', none⟩))) w) : WpO P n ops K (⟨some d, .indexAddr t x y, ty, pos, aft, none⟩ :: l) f w :=
  jop rfl (qv (q_indexAt _ _ _)) (plain_v _) fun A1 hE => Go.Dw.wpo_indexAddr ht hx hy h0 h1 e hd (Go.Dw.wpo_nil (keep hE h))
theorem wpo_indexE {t sz len cap b q o' : Nat} {a : Option Addr} {x y : Operand} {k : IntKind} {i : Int} (ht : elemSz P t = some sz) (hx : ev f x = .slice a len cap) (hy : ev f y = .int k i) (ha : a = some ⟨b, q, none⟩) (e : q + i.toNat * sz = o') (h0 : 0 ≤ i) (h1 : i < len)
    (hd : Nat.blt d n = true) (h : WpO P n ops K l (up f d (.pointer (some ⟨b, o', none⟩))) w) : WpO P n ops K (⟨some d, .indexAddr t x y, ty, pos, aft, none⟩ :: l) f w := by
  subst ha
  exact wpo_indexAddr ht hx hy h0 h1 e hd h
theorem wpo_len {t : TypeId} {a : Option Addr} {m c : Nat} {x : Operand} (ht : (match P.underlying t with | some (.slice _) => true | _ => false) = true) (hx : ev f x = .slice a m c) (hd : Nat.blt d n = true) (h : WpO P n ops K l (up f d (.int .i64 (m : Int))) w) : WpO P n ops K (⟨some d, .call ⟨.builtin .len, #[x], #[t]⟩, ty, pos, aft, none⟩ :: l) f w :=
  jop rfl (q_callb (by rw [show (#[x]).map (ev f) = #[Value.slice a m c] from by simp [hx]]; exact qv (q_len (fun r => ⟨by simp, by simp⟩)))) (plain_len) fun A1 hE => Go.Dw.wpo_len ht hx hd (Go.Dw.wpo_nil (keep hE h))
theorem wpo_nilCheck {x : Operand} {a : Addr} (hx : ev f x = .pointer (some a)) (hd : Nat.blt d n = true) (h : WpO P n ops K l (up f d (.pointer (some a))) w) : WpO P n ops K (⟨some d, .nilCheck x, ty, pos, aft, none⟩ :: l) f w :=
  jop rfl (by simp only [execOp, hx]; exact qp _) (by simp only [execOp, hx]; exact plain_p _) fun A1 hE => Go.Dw.wpo_nilCheck hx hd (Go.Dw.wpo_nil (keep hE h))
theorem wpo_extract {x : Operand} {i : Nat} {vs : Array Value} {v : Value} (hx : ev f x = .tuple vs) (hv : vs[i]? = some v) (hd : Nat.blt d n = true) (h : WpO P n ops K l (up f d v) w) : WpO P n ops K (⟨some d, .extract x i, ty, pos, aft, none⟩ :: l) f w :=
  jop rfl (qv (q_extract _ _)) (plain_v _) fun A1 hE => Go.Dw.wpo_extract hx hv hd (Go.Dw.wpo_nil (keep hE h))
theorem wpo_not {t : TypeId} {x : Operand} {b b' : Bool} (hx : ev f x = .bool b) (hb : (!b) = b') (hd : Nat.blt d n = true) (h : WpO P n ops K l (up f d (.bool b')) w) : WpO P n ops K (⟨some d, .unOp .not t x, ty, pos, aft, none⟩ :: l) f w :=
  jop rfl (qv (q_unary _ _)) (plain_v _) fun A1 hE => Go.Dw.wpo_not hx hb hd (Go.Dw.wpo_nil (keep hE h))
theorem wpo_build {t : TypeId} {parts : Array (Nat × Operand)} {ps : List (Nat × Value)} {v : Value} (hp : parts.toList.map (fun p => (p.1, ev f p.2)) = ps) (hb : ∀ w, (Instr.build t ps.toArray).run P w = .ok v w) (hd : Nat.blt d n = true) (h : WpO P n ops K l (up f d v) w) : WpO P n ops K (⟨some d, .build t parts, ty, pos, aft, none⟩ :: l) f w :=
  jop rfl (qv (q_build _ _)) (plain_v _) fun A1 hE => Go.Dw.wpo_build hp (hb A1) hd (Go.Dw.wpo_nil (keep hE h))
theorem wpo_makeFunc {k : FuncId} {cap : Array Operand} {vs : List Value} (hc : cap.toList.map (ev f) = vs) (hd : Nat.blt d n = true) (h : WpO P n ops K l (up f d (.func (.func k) #[] vs.toArray)) w) : WpO P n ops K (⟨some d, .makeFunc (.func k) #[] cap, ty, pos, aft, none⟩ :: l) f w :=
  jop rfl (qv (qp _)) (plain_v _) fun A1 hE => Go.Dw.wpo_makeFunc hc hd (Go.Dw.wpo_nil (keep hE h))
theorem wpo_conv {s t : TypeId} {x : Operand} {k k' : IntKind} {a c : Int} (hx : ev f x = .int k a) (hs : (P.underlying s).isSome = true) (ht : P.underlying t = some (.int k')) (hc : k'.wrap a = c) (hd : Nat.blt d n = true) (h : WpO P n ops K l (up f d (.int k' c)) w) : WpO P n ops K (⟨some d, .convert s t x, ty, pos, aft, none⟩ :: l) f w :=
  jop rfl (by simp only [execOp, hx]; exact qv (q_convInt hs ht)) (plain_v _) fun A1 hE => Go.Dw.wpo_conv hx hs ht hc hd (Go.Dw.wpo_nil (keep hE h))
theorem wpo_eqs {bo : BinOp} {t yt : TypeId} {x y : Operand} {u v : Value} {q q' : Bool} (hx : ev f x = u) (hy : ev f y = v) (hu : flat1 u = true) (hv : flat1 v = true) (hg : ∀ w, (eqGuard bo t x y u v).run P w = .ok () w) (hr : ∀ w, (binOp bo t u v).run P w = .ok (.bool q') w) (hq : q' = q) (hd : Nat.blt d n = true) (h : WpO P n ops K l (up f d (.bool q)) w) : WpO P n ops K (⟨some d, .binOp bo t x y yt, ty, pos, aft, none⟩ :: l) f w :=
  jop rfl (qo_bin (flat_of hx hu) (flat_of hy hv)) (plain_v _) fun A1 hE => Go.Dw.wpo_eqs hx hy (hg A1) (hr A1) hq hd (Go.Dw.wpo_nil (keep hE h))
theorem wpo_bin {bo : BinOp} {xt yt : TypeId} {x y : Operand} {u u' v : Value} (hx : ev f x = u) (hy : ev f y = u') (hu : flat1 u = true) (hv : flat1 u' = true) (hr : ∀ w, (binOp bo xt u u').run P w = .ok v w) (hg : ∀ x y, eqGuard bo xt x y u u' = pure ()) (hd : Nat.blt d n = true) (h : WpO P n ops K l (up f d v) w) : WpO P n ops K (⟨some d, .binOp bo xt x y yt, ty, pos, aft, none⟩ :: l) f w :=
  jop rfl (qo_bin (flat_of hx hu) (flat_of hy hv)) (plain_v _) fun A1 hE => Go.Dw.wpo_bin hx hy (hr A1) hg hd (Go.Dw.wpo_nil (keep hE h))
theorem wpo_neqb {t yt : TypeId} {x y : Operand} {a b q : Bool} (ht : P.underlying t = some .bool) (hx : ev f x = .bool a) (hy : ev f y = .bool b) (hq : (!decide (a = b)) = q) (hd : Nat.blt d n = true) (h : WpO P n ops K l (up f d (.bool q)) w) : WpO P n ops K (⟨some d, .binOp .neq t x y yt, ty, pos, aft, none⟩ :: l) f w :=
  jop rfl (qo_bin (flat_of hx rfl) (flat_of hy rfl)) (plain_v _) fun A1 hE => Go.Dw.wpo_neqb ht hx hy hq hd (Go.Dw.wpo_nil (keep hE h))
theorem wpo_add {xt yt : TypeId} {x y : Operand} {a b c : Int} (hx : ev f x = .int .i64 a) (hy : ev f y = .int .i64 b) (hc : a + b = c) (h0 : -9223372036854775808 ≤ c) (h1 : c ≤ 9223372036854775807) (hd : Nat.blt d n = true) (h : WpO P n ops K l (up f d (.int .i64 c)) w) : WpO P n ops K (⟨some d, .binOp .add xt x y yt, ty, pos, aft, none⟩ :: l) f w :=
  jop rfl (qo_bin (flat_of hx rfl) (flat_of hy rfl)) (plain_v _) fun A1 hE => Go.Dw.wpo_add hx hy hc h0 h1 hd (Go.Dw.wpo_nil (keep hE h))
theorem wpo_sub {xt yt : TypeId} {x y : Operand} {a b c : Int} (hx : ev f x = .int .i64 a) (hy : ev f y = .int .i64 b) (hc : a - b = c) (h0 : -9223372036854775808 ≤ c) (h1 : c ≤ 9223372036854775807) (hd : Nat.blt d n = true) (h : WpO P n ops K l (up f d (.int .i64 c)) w) : WpO P n ops K (⟨some d, .binOp .sub xt x y yt, ty, pos, aft, none⟩ :: l) f w :=
  jop rfl (qo_bin (flat_of hx rfl) (flat_of hy rfl)) (plain_v _) fun A1 hE => Go.Dw.wpo_sub hx hy hc h0 h1 hd (Go.Dw.wpo_nil (keep hE h))
theorem wpo_quo {xt yt : TypeId} {x y : Operand} {a b c : Int} (hx : ev f x = .int .i64 a) (hy : ev f y = .int .i64 b) (h0 : 0 ≤ a) (h1 : 0 < b) (h2 : a ≤ 9223372036854775807) (hc : a / b = c) (hd : Nat.blt d n = true) (h : WpO P n ops K l (up f d (.int .i64 c)) w) : WpO P n ops K (⟨some d, .binOp .quo xt x y yt, ty, pos, aft, none⟩ :: l) f w :=
  jop rfl (qo_bin (flat_of hx rfl) (flat_of hy rfl)) (plain_v _) fun A1 hE => Go.Dw.wpo_quo hx hy h0 h1 h2 hc hd (Go.Dw.wpo_nil (keep hE h))
theorem wpo_rem {xt yt : TypeId} {x y : Operand} {a b c : Int} (hx : ev f x = .int .i64 a) (hy : ev f y = .int .i64 b) (h0 : 0 ≤ a) (h1 : 0 < b) (_h2 : a ≤ 9223372036854775807) (hc : a % b = c) (hd : Nat.blt d n = true) (h : WpO P n ops K l (up f d (.int .i64 c)) w) : WpO P n ops K (⟨some d, .binOp .rem xt x y yt, ty, pos, aft, none⟩ :: l) f w :=
  jop rfl (qo_bin (flat_of hx rfl) (flat_of hy rfl)) (plain_v _) fun A1 hE => Go.Dw.wpo_rem hx hy h0 h1 _h2 hc hd (Go.Dw.wpo_nil (keep hE h))
theorem wpo_lss {xt yt : TypeId} {x y : Operand} {k : IntKind} {a b : Int} {q : Bool} (hx : ev f x = .int k a) (hy : ev f y = .int k b) (hq : decide (a < b) = q) (hd : Nat.blt d n = true) (h : WpO P n ops K l (up f d (.bool q)) w) : WpO P n ops K (⟨some d, .binOp .lss xt x y yt, ty, pos, aft, none⟩ :: l) f w :=
  jop rfl (qo_bin (flat_of hx rfl) (flat_of hy rfl)) (plain_v _) fun A1 hE => Go.Dw.wpo_lss hx hy hq hd (Go.Dw.wpo_nil (keep hE h))
theorem wpo_leq {xt yt : TypeId} {x y : Operand} {k : IntKind} {a b : Int} {q : Bool} (hx : ev f x = .int k a) (hy : ev f y = .int k b) (hq : decide (a ≤ b) = q) (hd : Nat.blt d n = true) (h : WpO P n ops K l (up f d (.bool q)) w) : WpO P n ops K (⟨some d, .binOp .leq xt x y yt, ty, pos, aft, none⟩ :: l) f w :=
  jop rfl (qo_bin (flat_of hx rfl) (flat_of hy rfl)) (plain_v _) fun A1 hE => Go.Dw.wpo_leq hx hy hq hd (Go.Dw.wpo_nil (keep hE h))
theorem wpo_gtr {xt yt : TypeId} {x y : Operand} {k : IntKind} {a b : Int} {q : Bool} (hx : ev f x = .int k a) (hy : ev f y = .int k b) (hq : decide (b < a) = q) (hd : Nat.blt d n = true) (h : WpO P n ops K l (up f d (.bool q)) w) : WpO P n ops K (⟨some d, .binOp .gtr xt x y yt, ty, pos, aft, none⟩ :: l) f w :=
  jop rfl (qo_bin (flat_of hx rfl) (flat_of hy rfl)) (plain_v _) fun A1 hE => Go.Dw.wpo_gtr hx hy hq hd (Go.Dw.wpo_nil (keep hE h))
theorem wpo_geq {xt yt : TypeId} {x y : Operand} {k : IntKind} {a b : Int} {q : Bool} (hx : ev f x = .int k a) (hy : ev f y = .int k b) (hq : decide (b ≤ a) = q) (hd : Nat.blt d n = true) (h : WpO P n ops K l (up f d (.bool q)) w) : WpO P n ops K (⟨some d, .binOp .geq xt x y yt, ty, pos, aft, none⟩ :: l) f w :=
  jop rfl (qo_bin (flat_of hx rfl) (flat_of hy rfl)) (plain_v _) fun A1 hE => Go.Dw.wpo_geq hx hy hq hd (Go.Dw.wpo_nil (keep hE h))
theorem wpo_eql {xt yt : TypeId} {x y : Operand} {k : IntKind} {a b : Int} {q : Bool} (hx : ev f x = .int k a) (hy : ev f y = .int k b) (hq : decide (a = b) = q) (hd : Nat.blt d n = true) (h : WpO P n ops K l (up f d (.bool q)) w) : WpO P n ops K (⟨some d, .binOp .eql xt x y yt, ty, pos, aft, none⟩ :: l) f w :=
  jop rfl (qo_bin (flat_of hx rfl) (flat_of hy rfl)) (plain_v _) fun A1 hE => Go.Dw.wpo_eql hx hy hq hd (Go.Dw.wpo_nil (keep hE h))
theorem wpo_neq {xt yt : TypeId} {x y : Operand} {k : IntKind} {a b : Int} {q : Bool} (hx : ev f x = .int k a) (hy : ev f y = .int k b) (hq : (!decide (a = b)) = q) (hd : Nat.blt d n = true) (h : WpO P n ops K l (up f d (.bool q)) w) : WpO P n ops K (⟨some d, .binOp .neq xt x y yt, ty, pos, aft, none⟩ :: l) f w :=
  jop rfl (qo_bin (flat_of hx rfl) (flat_of hy rfl)) (plain_v _) fun A1 hE => Go.Dw.wpo_neq hx hy hq hd (Go.Dw.wpo_nil (keep hE h))
theorem wpo_make {α : Type} {g : α → List Value} {z : α} {t e sz bytes c : Nat} {v : Value} {x y : Operand} (ht : mkTy P t = some (e, sz, bytes, some v)) (hv : v.cells = (g z).toArray) (hg : Wide g sz) (h0 : 0 < sz) (hx : ev f x = .int .i64 (c : Int)) (hy : ev f y = .int .i64 (c : Int)) (hb : bytes * c ≤ 281474976710656) (h63 : c ≤ 9223372036854775807) (hd : Nat.blt d n = true) (h : ∀ B w', NewB w w' B e ((List.replicate c z).flatMap g).toArray → WpO P n ops K l (up f d (.slice (some ⟨B, 0, none⟩) c c)) w') : WpO P n ops K (⟨some d, .makeSlice t x y, ty, pos, aft, none⟩ :: l) f w :=
  jop rfl (qv (q_makeSlice _ _ _)) (plain_v _) fun A1 hE => Go.Dw.wpo_make ht hv hg h0 hx hy hb h63 hd (fun B w' hN => Go.Dw.wpo_nil (h B (norm w w') (NewB.of hE hN)))
theorem wpo_buildSlice {t len : Nat} {parts : Array (Nat × Operand)} {ps : List (Nat × Value)} {e : TypeId} {cs : Array Value} (hp : parts.toList.map (fun p => (p.1, ev f p.2)) = ps) (hb : ∀ w, (Instr.buildSlice t len ps.toArray).run P w = .ok (.slice (some ⟨w.heap.size, 0, none⟩) len len) (w.alloc (.cells cs e))) (hd : Nat.blt d n = true) (h : ∀ B w', NewB w w' B e cs → WpO P n ops K l (up f d (.slice (some ⟨B, 0, none⟩) len len)) w') : WpO P n ops K (⟨some d, .buildSlice t len parts, ty, pos, aft, none⟩ :: l) f w :=
  jop rfl (qv (q_buildSlice _ _ _)) (plain_v _) fun A1 hE => Go.Dw.wpo_buildSlice hp hb hd (fun B w' hN => Go.Dw.wpo_nil (h B (norm w w') (NewB.of hE hN)))
theorem wpo_append {α : Type} {g : α → List Value} {t e sz bytes cap c : Nat} {z : Value} {x y : Operand} {B : Nat} {ys zs : List α} {a : Addr} (ht : mkTy P t = some (e, sz, bytes, some z)) (hz : z.cells.size = sz) (hg : Wide g sz) (h0 : 0 < sz) (h1c : ∀ q : α, ∀ u ∈ g q, u.oneCell' = true) (hx : ev f x = .slice (some ⟨B, 0, none⟩) ys.length cap) (hy : ev f y = .slice (some a) zs.length c) (ho : Own w B e sz cap ys.length (ys.flatMap g)) (hs : SlAt w (some a) sz (zs.map g)) (hm : ys.length + zs.length ≤ 1099511627776) (hb : bytes ≤ 128) (hd : Nat.blt d n = true) (h : ∀ B' cap' w', Own w' B' e sz cap' (ys ++ zs).length ((ys ++ zs).flatMap g) → w.grownBy w' (some B) → (B' = B ∨ w.heap.size ≤ B') → WpO P n ops K l (up f d (.slice (some ⟨B', 0, none⟩) (ys ++ zs).length cap')) w') : WpO P n ops K (⟨some d, .call ⟨.builtin .append, #[x, y], #[t, t]⟩, ty, pos, aft, none⟩ :: l) f w :=
  jop rfl (q_callb (by rw [show (#[x, y]).map (ev f) = #[Value.slice (some ⟨B, 0, none⟩) ys.length cap, Value.slice (some a) zs.length c] from by simp [hx, hy]]; exact qv (q_append (mkTy_sl ht) _ _))) (plain_append) fun A1 hE => Go.Dw.wpo_append ht hz hg h0 h1c hx hy (hE.own ho) (hE.sl hs) hm hb hd (fun B' cap' w' hO hG hB => Go.Dw.wpo_nil (h B' cap' (norm w w') hO (hE.grow hG) (hB.imp id fun e => by rw [e]; exact hE.size)))
theorem wpo_appendN {α : Type} {g : α → List Value} {lo t e sz bytes cap c : Nat} {z : Value} {x y : Operand} {ax ay : Option Addr} {ys zs : List α} (ht : mkTy P t = some (e, sz, bytes, some z)) (hz : z.cells.size = sz) (hg : Wide g sz) (h0 : 0 < sz) (h1c : ∀ q : α, ∀ u ∈ g q, u.oneCell' = true) (hx : ev f x = .slice ax ys.length cap) (hy : ev f y = .slice ay zs.length c) (ho : OwnN lo w ax e sz cap ys.length (ys.flatMap g)) (hs : SlAt w ay sz (zs.map g)) (hc : ay = none → c = 0) (hm : ys.length + zs.length ≤ 1099511627776) (hb : bytes ≤ 128) (hlo : lo ≤ w.heap.size) (hd : Nat.blt d n = true) (h : ∀ a' cap' w', OwnN lo w' a' e sz cap' (ys ++ zs).length ((ys ++ zs).flatMap g) → w.grownBy w' (ax.map (·.block)) → (a'.map (·.block) = ax.map (·.block) ∨ ∃ B, a'.map (·.block) = some B ∧ w.heap.size ≤ B) → WpO P n ops K l (up f d (.slice a' (ys ++ zs).length cap')) w') : WpO P n ops K (⟨some d, .call ⟨.builtin .append, #[x, y], #[t, t]⟩, ty, pos, aft, none⟩ :: l) f w :=
  jop rfl (q_callb (by rw [show (#[x, y]).map (ev f) = #[Value.slice ax ys.length cap, Value.slice ay zs.length c] from by simp [hx, hy]]; exact qv (q_append (mkTy_sl ht) _ _))) (plain_append) fun A1 hE => Go.Dw.wpo_appendN ht hz hg h0 h1c hx hy (hE.ownN ho) (hE.sl hs) hc hm hb (Nat.le_trans hlo hE.size) hd (fun a' cap' w' hO hG hB => Go.Dw.wpo_nil (h a' cap' (norm w w') hO (hE.grow hG) (hB.imp id fun e => ⟨_, e, hE.size⟩)))
theorem wpo_store1O {α : Type} {g : α → List Value} {t b o sz cap k j : Nat} {T : TypeId} {x y : Operand} {v : Value} {ys : List α} {z z' : α} (ht : oneTy P t = true) (hx : ev f x = .pointer (some ⟨b, o, none⟩)) (hy : ev f y = v) (h1 : v.oneCell' = true) (hg : Wide g sz) (ho : Own w b T sz cap ys.length (ys.flatMap g)) (hk : ys[k]? = some z) (hj : j < sz) (e : o = k * sz + j) (hv : (g z).set j v = g z') (h : ∀ w', Own w' b T sz cap (ys.set k z').length ((ys.set k z').flatMap g) → w.grownBy w' (some b) → WpO P n ops K l f w') : WpO P n ops K (⟨none, .store t x y, ty, pos, aft, none⟩ :: l) f w :=
  jop rfl (qu (q_storeAt _ _ _)) (plain_u _) fun A1 hE => Go.Dw.wpo_store1O ht hx hy h1 hg (hE.own ho) hk hj e hv (fun w' hO hG => Go.Dw.wpo_nil (h (norm w w') hO (hE.grow hG)))
theorem wpo_storenO {α : Type} {g : α → List Value} {t b o sz cap k : Nat} {T : TypeId} {x y : Operand} {ys : List α} {z' : α} (ht : rowTy P t = some sz) (hx : ev f x = .pointer (some ⟨b, o, none⟩)) (hy : ev f y = .agg (g z').toArray) (h1 : ∀ v ∈ g z', v.oneCell' = true) (hg : Wide g sz) (ho : Own w b T sz cap ys.length (ys.flatMap g)) (hk : k < ys.length) (e : o = k * sz) (h : ∀ w', Own w' b T sz cap (ys.set k z').length ((ys.set k z').flatMap g) → w.grownBy w' (some b) → WpO P n ops K l f w') : WpO P n ops K (⟨none, .store t x y, ty, pos, aft, none⟩ :: l) f w :=
  jop rfl (qu (q_storeAt _ _ _)) (plain_u _) fun A1 hE => Go.Dw.wpo_storenO ht hx hy h1 hg (hE.own ho) hk e (fun w' hO hG => Go.Dw.wpo_nil (h (norm w w') hO (hE.grow hG)))
theorem wpo_s2a {t e m sz len cap b q : Nat} {a : Option Addr} {x : Operand} (ht : arrTy P t = some (m, e, sz)) (hx : ev f x = .slice a len cap) (ha : a = some ⟨b, q, none⟩) (hm : m ≤ len) (hd : Nat.blt d n = true) (h : WpO P n ops K l (up f d (.pointer (some ⟨b, q, none⟩))) w) : WpO P n ops K (⟨some d, .sliceToArrayPointer t x, ty, pos, aft, none⟩ :: l) f w :=
  jop rfl (qv (q_arrayAt _ _)) (plain_v _) fun A1 hE => Go.Dw.wpo_s2a ht hx ha hm hd (Go.Dw.wpo_nil (keep hE h))
theorem wpo_sliceArr {t e m sz b o : Nat} {x : Operand} (ht : arrTy P t = some (m, e, sz)) (hx : ev f x = .pointer (some ⟨b, o, none⟩)) (hm : 0 < m) (hd : Nat.blt d n = true) (h : WpO P n ops K l (up f d (.slice (some ⟨b, o, none⟩) m m)) w) : WpO P n ops K (⟨some d, .slice t x none none none, ty, pos, aft, none⟩ :: l) f w :=
  jop rfl (qv (q_sliceAt _ _ _ _ _)) (plain_v _) fun A1 hE => Go.Dw.wpo_sliceArr ht hx hm hd (Go.Dw.wpo_nil (keep hE h))
theorem wpo_indexArr {α : Type} {g : α → List Value} {ys : List α} {z : α} {t e m sz : Nat} {k : IntKind} {i : Int} {x y : Operand} (ht : arrTy P t = some (m, e, sz)) (hr : rowTy P e = some sz) (hg : Wide g sz) (hx : ev f x = .agg (ys.flatMap g).toArray) (hy : ev f y = .int k i) (h0 : 0 ≤ i) (h1 : i < m) (hk : ys[i.toNat]? = some z) (hd : Nat.blt d n = true) (h : WpO P n ops K l (up f d (.agg (g z).toArray)) w) : WpO P n ops K (⟨some d, .index t x y, ty, pos, aft, none⟩ :: l) f w :=
  jop rfl (qv (q_index _ _ _)) (plain_v _) fun A1 hE => Go.Dw.wpo_indexArr ht hr hg hx hy h0 h1 hk hd (Go.Dw.wpo_nil (keep hE h))
theorem wpo_run {d : Option Nat} {op : Op} {ty : TypeId} {pos : String} {aft : Array Edge} {j dj : Nat} {b b' : Bool} {oj : Oper} (hj : ops[j]? = some oj) (hdj : oj.dst = some dj) (hb : f dj = .bool b') (hbb : b' = b)
    (h : WpO P n ops K (⟨d, op, ty, pos, aft, none⟩ :: l) f w) : WpO P n ops K (⟨d, op, ty, pos, aft, some (j, b)⟩ :: l) f w :=
  fun a ha => by
    rcases h a ha with ⟨_, h2 | ⟨R, h2, h3⟩⟩ | ⟨h1, _⟩
    · exact Or.inl ⟨by simp [Region.wanted, yielded_eq ha hj hdj hb, hbb], Or.inl h2⟩
    · exact Or.inl ⟨by simp [Region.wanted, yielded_eq ha hj hdj hb, hbb], Or.inr ⟨R, h2, h3⟩⟩
    · simp [Region.wanted] at h1
theorem jpass {d : Nat} {op : Op} {ty : TypeId} {pos : String} {aft : Array Edge} {j : Nat} {b : Bool} (hw : ∀ a : Act, FEq n a f → Region.wanted ⟨some d, op, ty, pos, aft, some (j, b)⟩ (yielded ops a.tmps) = false)
    (hd : Nat.blt d n = true) (h : WpO P n ops K l (up f d undef) w) : WpO P n ops K (⟨some d, op, ty, pos, aft, some (j, b)⟩ :: l) f w :=
  fun a ha => Or.inr ⟨hw a ha, _, ha.put hd undef, h⟩
theorem wpo_pass {d : Nat} {op : Op} {ty : TypeId} {pos : String} {aft : Array Edge} {j dj : Nat} {b b' : Bool} {oj : Oper} (hj : ops[j]? = some oj) (hdj : oj.dst = some dj) (hb : f dj = .bool b') (hbb : b' = !b)
    (hd : Nat.blt d n = true) (h : WpO P n ops K l (up f d undef) w) : WpO P n ops K (⟨some d, op, ty, pos, aft, some (j, b)⟩ :: l) f w :=
  jpass (fun a ha => by simp [Region.wanted, yielded_eq ha hj hdj hb, hbb]) hd h
theorem wpo_passu {d : Nat} {op : Op} {ty : TypeId} {pos : String} {aft : Array Edge} {j dj : Nat} {b : Bool} {oj : Oper} (hj : ops[j]? = some oj) (hdj : oj.dst = some dj) (hb : f dj = undef)
    (hd : Nat.blt d n = true) (h : WpO P n ops K l (up f d undef) w) : WpO P n ops K (⟨some d, op, ty, pos, aft, some (j, b)⟩ :: l) f w :=
  jpass (fun a ha => by simp [Region.wanted, yielded_undef ha hj hdj hb]) hd h
end
end Go.Dw.J
end
section
namespace Go.Dw.J
open Go.Dw Go.RowKit
open Go.Conc (G)
set_option linter.unusedVariables false
set_option linter.unusedSimpArgs false
set_option linter.unusedSectionVars false
theorem q_callGo {P : Program} {k : FuncId} (h : goFn P k = true) (args : Array Value) : Quiet P (callFunc k args) := by
  unfold goFn at h
  split at h
  · rename_i fn hf
    simp only [Bool.and_eq_true, Bool.not_eq_true'] at h
    obtain ⟨hb, hn⟩ := h
    have hb' : fn.body.isNone = false := by cases hh : fn.body <;> simp_all
    unfold callFunc
    refine qby q_program (R := (· = P)) rfl fun p hp => ?_
    subst hp
    simp only [hf, hn, hb', Bool.false_eq_true, if_false]
    exact qp _
  · cases h
section
variable [Comp] {P : Program} {n : Nat} {ops : Array Oper} {K : Fr → World → Prop} {l : List Oper} {f : Fr} {w : World} {o : Oper} {ty : TypeId} {pos : String} {aft : Array Edge} {d : Nat}
theorem wpo_enter {k : FuncId} {args : Array Value} {R : Value → World → Prop} (hg : o.guard = none) (hd : okd n o.dst = true) (hq : Quiet P (execOp (ev f) o)) (hr : ∀ w, (execOp (ev f) o).run P w = .ok (.enter k args) w)
    (hc : CallsR P k args w R) (h : ∀ v w', R v w' → WpO P n ops K l (upo f o.dst v) w') : WpO P n ops K (o :: l) f w := fun a ha =>
  Or.inl ⟨by simp [Region.wanted, hg], Or.inr ⟨R, special_enter (by rw [ha.eval]; exact hq) (fun A1 _ => ⟨_, by rw [ha.eval]; exact hr A1, Or.inl ⟨k, args, rfl, rfl⟩⟩) hc, fun v A' hR => ⟨_, ha.puto hd v, h v A' hR⟩⟩⟩
theorem wpo_call {k : FuncId} {args : Array Operand} {tys : Array TypeId} {vs : List Value} {R : Value → World → Prop} (hk : goFn P k = true) (ha : args.toList.map (ev f) = vs) (hd : Nat.blt d n = true) (hc : CallsR P k vs.toArray w R)
    (h : ∀ v w', R v w' → WpO P n ops K l (up f d v) w') : WpO P n ops K (⟨some d, .call ⟨.value (.func k), args, tys⟩, ty, pos, aft, none⟩ :: l) f w :=
  wpo_enter (R := R) (k := k) (args := vs.toArray) rfl hd (q_callGo hk _) (fun w => by
    have : args.map (ev f) = vs.toArray := by rw [← ha]; apply Array.ext'; simp
    simp [execOp, resolve, ev, Deferred.ofValue, invoke, this, run_callGo hk]) hc h
end
def resV (P : Program) (fn : Func) (f : Fr) (w : World) (v : Value) : Prop := ∀ A1, Ext w A1 → Go.Dw.resV P fn f A1 v
def endQ (P : Program) (fn : Func) (R : Value → World → Prop) : Exit → Fr → World → Prop
  | .normal, f, w | .ret, f, w => ∃ v, resV P fn f w v ∧ R v w
  | _, _, _ => False
theorem res0 {P : Program} {fn : Func} {f : Fr} {w : World} (h : fn.results = #[]) : resV P fn f w (.tuple #[]) := fun _ _ => Go.Dw.res0 h
theorem res1 {P : Program} {fn : Func} {f : Fr} {w : World} {t : Nat} {v : Value} (h : fn.results = #[.tmp t]) (hv : f t = v) : resV P fn f w v := fun _ _ => Go.Dw.res1 h hv
theorem res2 {P : Program} {fn : Func} {f : Fr} {w : World} {t u : Nat} {v x : Value} (h : fn.results = #[.tmp t, .tmp u]) (hv : f t = v) (hx : f u = x) : resV P fn f w (.tuple #[v, x]) := fun _ _ => Go.Dw.res2 h hv hx
def resCell (P : Program) (f : Fr) (w : World) (t : Nat) (T : TypeId) (v : Value) : Prop := ∀ A1, Ext w A1 → Go.Dw.resCell P f A1 t T v
section
variable {P : Program} {fn : Func} {f : Fr} {w : World}
theorem resCell_mk {t T k b o : Nat} {vs : List Value} (ht : rowTy P T = some k) (hf : f t = .pointer (some ⟨b, o, none⟩)) (hl : vs.length = k) (hr : w.rangeAt b o vs) : resCell P f w t T (.agg vs.toArray) := fun A1 hE => Go.Dw.resCell_mk ht hf hl (hE.range hr)
theorem resCell_mk1 {t T b o : Nat} {v : Value} (ht : oneTy P T = true) (hf : f t = .pointer (some ⟨b, o, none⟩)) (hc : w.cell? ⟨b, o, none⟩ = some v) : resCell P f w t T v := fun A1 hE => Go.Dw.resCell_mk1 ht hf (hE.cell hc)
theorem resC {t T : Nat} {v : Value} (h : fn.results = #[.cell t T]) (hc : resCell P f w t T v) : resV P fn f w v := fun A1 hE => Go.Dw.resC h (hc A1 hE)
theorem resCT {s t T : Nat} {u v : Value} (h : fn.results = #[.cell t T, .tmp s]) (hc : resCell P f w t T v) (hs : f s = u) : resV P fn f w (.tuple #[v, u]) := fun A1 hE => Go.Dw.resCT h (hc A1 hE) hs
theorem q_results (fn : Func) (tmps : Array Value) : Quiet P (results fn tmps) := by
  unfold results
  refine qb (q_mapM (fun r => ?_) _) fun _ => qp _
  split
  · exact qp _
  · exact qb (q_asAddr _) fun _ => q_loadVar _ _
end
section
variable [Comp] {P : Program} {J : Goroutine → World → Prop} {A : World}
theorem Closed.leave (hJ : Closed P J) {b c : Frame} {cs : List Frame} {a : Act} {fn : Func} {v : Value} (hn : b.kind = .normal) (hbd : b.defers = []) (hd : a.defers = []) (hf : P.funcs[b.fn]? = some fn) (hr : ∀ A1, Ext A A1 → (results fn a.tmps).run P A1 = .ok v A1)
    (h : J (G (c.finish v) cs) A) (todo : List Item) : J (G { ato b a todo with mode := .returning } (c :: cs)) A := by
  refine hJ.sem (s := results fn a.tmps) (next := fun v => G (c.finish v) cs) rfl (q_results fn a.tmps) (fun w x w' es hh => ⟨seen P b.fn es, ?_, fun e he => Go.Conc.mem_seen he⟩) fun A1 hE => ⟨v, A1, hr A1 hE, hJ.ext _ _ _ hE.norm rfl h⟩
  have e1 := Sem.runT_fst P (results fn a.tmps) w #[]
  rw [hh] at e1
  have e2 : (results fn a.tmps).events P w #[] = es := by unfold Sem.events; rw [hh]
  simp [G, stepG, unwind, doReturn, ato, hn, hd, hbd, hf, ← e1, e2, GStep.after]
theorem calls_of_wpf {k : FuncId} {fn : Func} {c : Code} {args : Array Value} {R : Value → World → Prop} {n : Nat}
    (hf : P.funcs[k]? = some fn) (hb : fn.body = some c) (hn : fn.ntmps = n) (hs : Nat.ble args.size n = true)
    (h : Wpf P n (endQ P fn R) c (f0 args) A) : CallsR P k args A R := fun J hJ cf cs hk => by
  have hs' : args.size ≤ n := by simpa [Nat.ble_eq] using hs
  rw [Go.Conc.enter_at args hf hb, ← ato_at (b := Go.Conc.base k) rfl rfl]
  have leave : ∀ (a' : Act) (f' : Fr) (A' : World) (todo : List Item), FEq n a' f' → (∃ v, resV P fn f' A' v ∧ R v A') → J (G { ato (Go.Conc.base k) a' todo with mode := .returning } (cf :: cs)) A' := fun a' f' A' todo hf' ⟨v, hv, hR⟩ =>
    hJ.leave (b := Go.Conc.base k) rfl rfl hf'.defers hf (fun A1 hE => hv A1 hE _ hf'.at_) (hk v A' hR) todo
  refine h J hJ (Go.Conc.base k) (by simp [Go.Conc.base]) [] (cf :: cs) _ ⟨rfl, by simp [hn]; omega, fun i => ?_⟩ fun e a' f' A' hf' hQ => ?_
  · simp only [f0, lget_eq, Array.getD_eq_getD_getElem?, Array.getElem?_toList]
    by_cases hi : i < args.size
    · rw [Array.getElem?_append_left hi]
    · rw [Array.getElem?_append_right (by omega), Array.getElem?_eq_none (by omega : args.size ≤ i)]
      by_cases h2 : i - args.size < fn.ntmps - args.size
      · simp [h2]
      · rw [Array.getElem?_eq_none (by simp; omega)]
  · cases e with
    | normal => exact hJ.move rfl (fun w => stepG_end rfl) (leave a' f' A' _ hf' hQ)
    | ret =>
      intro k2
      refine hJ.move rfl (g' := G { ato (Go.Conc.base k) a' (.code .ret :: k2) with mode := .returning } (cf :: cs)) (fun w => stepG_ret rfl) (leave a' f' A' _ hf' hQ)
    | exit i => exact hQ.elim
    | goto l => exact hQ.elim
    | panic c => exact hQ.elim
    | outgrown => exact hQ.elim
end
section
variable [Comp]
def OpG (P : Program) (ops : Array Oper) (o : Oper) (K : Act → World → Prop) (a : Act) (A : World) : Prop :=
  (Region.wanted o (yielded ops a.tmps) = true ∧
    ((Quiet P (execOp a.eval o) ∧ ∀ A1, Ext A A1 → ∃ x v A1', (execOp a.eval o).run P A1 = .ok x A1' ∧ (x = .value v ∨ (x = .skip ∧ v = undef)) ∧ K (a.put o.dst v) (norm A A1')) ∨
     (∃ R, Special P ops o (execOp a.eval o) A R ∧ ∀ v A', R v A' → K (a.put o.dst v) A'))) ∨
  (Region.wanted o (yielded ops a.tmps) = false ∧ K (a.put o.dst undef) A)
def LstG (P : Program) (ops : Array Oper) (K : Act → World → Prop) : List Oper → Act → World → Prop
  | [], a, A => K a A
  | o :: l, a, A => OpG P ops o (LstG P ops K l) a A
def AnyJ (P : Program) (md : Region.Mode) (ops : Array Oper) (K : Act → World → Prop) : Nat → Array Bool → Act → World → Prop
  | 0, listed, a, A => Region.ready md ops listed = [] ∧ K a A
  | fuel + 1, listed, a, A => (Region.ready md ops listed = [] → K a A) ∧ ∀ i ∈ Region.ready md ops listed, ∃ o, ops[i]? = some o ∧ OpG P ops o (AnyJ P md ops K fuel (listed.setIfInBounds i true)) a A
variable {P : Program}
theorem opG_of {n : Nat} {ops : Array Oper} {o : Oper} {next : Fr → World → Prop} {f : Fr} {A : World} {a : Act} (h : OpJ P n ops o next f A) (ha : FEq n a f) : OpG P ops o (fun a' A' => ∃ f', FEq n a' f' ∧ next f' A') a A := h a ha
theorem OpG.mono {ops : Array Oper} {o : Oper} {K K' : Act → World → Prop} {a : Act} {A : World} (h : OpG P ops o K a A) (hk : ∀ a A, K a A → K' a A) : OpG P ops o K' a A := by
  rcases h with ⟨h1, ⟨h2, h3⟩ | ⟨R, h4, h5⟩⟩ | ⟨h1, h3⟩
  · refine Or.inl ⟨h1, Or.inl ⟨h2, fun A1 hE => ?_⟩⟩
    obtain ⟨x, v, A1', h4, h5, h6⟩ := h3 A1 hE
    exact ⟨x, v, A1', h4, h5, hk _ _ h6⟩
  · exact Or.inl ⟨h1, Or.inr ⟨R, h4, fun v A' hR => hk _ _ (h5 v A' hR)⟩⟩
  · exact Or.inr ⟨h1, hk _ _ h3⟩
theorem OpG.ext {ops : Array Oper} {o : Oper} {K : Act → World → Prop} {a : Act} {A A1 : World} (h : OpG P ops o K a A) (he : Ext A A1) (ht : A1.tape = A.tape) (hn : ∀ a B B1, K a B → Ext B B1 → B1.tape = B.tape → K a B1) : OpG P ops o K a A1 := by
  rcases h with ⟨h1, ⟨h2, h3⟩ | ⟨R, h4, h5⟩⟩ | ⟨h1, h3⟩
  · refine Or.inl ⟨h1, Or.inl ⟨h2, fun A2 hE => ?_⟩⟩
    obtain ⟨x, v, A1', h4, h5, h6⟩ := h3 A2 (he.trans hE)
    exact ⟨x, v, A1', h4, h5, hn _ _ _ h6 ⟨0, by simp [Go.Dw.J.norm], rfl, rfl⟩ ht⟩
  · exact Or.inl ⟨h1, Or.inr ⟨R, h4.ext he ht, h5⟩⟩
  · exact Or.inr ⟨h1, hn _ _ _ h3 he ht⟩
theorem AnyJ.ext {md : Region.Mode} {ops : Array Oper} {K : Act → World → Prop} (hK : ∀ a A A1, K a A → Ext A A1 → A1.tape = A.tape → K a A1) : ∀ {fuel : Nat} {listed : Array Bool} {a : Act} {A A1 : World}, AnyJ P md ops K fuel listed a A → Ext A A1 → A1.tape = A.tape → AnyJ P md ops K fuel listed a A1
  | 0, _, _, _, _, h, he, ht => ⟨h.1, hK _ _ _ h.2 he ht⟩
  | fuel + 1, _, _, _, _, h, he, ht => ⟨fun e => hK _ _ _ (h.1 e) he ht, fun i hi => by
    obtain ⟨o, ho, hop⟩ := h.2 i hi
    exact ⟨o, ho, hop.ext he ht fun a B B1 hB hE hT => AnyJ.ext hK hB hE hT⟩⟩
theorem OpG.run {ops : Array Oper} {o : Oper} {K : Act → World → Prop} {a : Act} {A : World} (h : OpG P ops o K a A) {J : Goroutine → World → Prop} (hJ : Closed P J) {b : Frame} (hb : b.kind ≠ .early) {i : Nat} {rest : List Nat} {k : List Item} {cs : List Frame} (ho : ops[i]? = some o)
    (hk : ∀ a' A', K a' A' → J (G (ato b a' (.inRegion ops rest :: k)) cs) A') : J (G (ato b a (.inRegion ops (i :: rest) :: k)) cs) A := by
  rcases h with ⟨h1, ⟨h2, h3⟩ | ⟨R, h4, h5⟩⟩ | ⟨h1, h3⟩
  · refine hJ.value hb ho h1 h2 fun A1 hE => ?_
    obtain ⟨x, v, A1', h4, h5, h6⟩ := h3 A1 hE
    exact ⟨x, v, A1', h4, h5, hk _ _ h6⟩
  · exact h4 J hJ b hb i rest k cs a o ho rfl h1 rfl fun v A' hR => hk _ _ (h5 v A' hR)
  · exact hJ.move rfl (fun w => stepG_unwanted ho h1) (hk _ _ h3)
theorem lstG_of {n : Nat} {ops : Array Oper} {Kf : Fr → World → Prop} {K : Act → World → Prop} (hext : ∀ a A A1, K a A → Ext A A1 → A1.tape = A.tape → K a A1) (hK : ∀ a' f' A', FEq n a' f' → Kf f' A' → K a' A') :
    ∀ (l : List Oper) (f : Fr) (A : World) (a : Act), FEq n a f → WpO P n ops Kf l f A → LstG P ops K l a A
  | [], f, A, a, ha, ⟨A0, h1, h2, h3⟩ => hext _ _ _ (hK a f A0 ha h3) h1 h2
  | o :: l, f, A, a, ha, h => (opG_of (o := o) h ha).mono fun a' A' ⟨f', hf, hx⟩ => lstG_of hext hK l f' A' a' hf hx
theorem anyJ_run {md : Region.Mode} {ops : Array Oper} {K : Act → World → Prop} {J : Goroutine → World → Prop} (hJ : Closed P J) {b : Frame} (hb : b.kind ≠ .early) {k : List Item} {cs : List Frame} (hk : ∀ a A, K a A → J (G (ato b a k) cs) A) :
    ∀ (fuel t : Nat) (listed : Array Bool) (a : Act) (A : World), AnyJ P md ops K fuel listed a A → J (G (ato b a (.inRegion ops (Region.linearise.go md ops fuel t listed []) :: k)) cs) A := by
  intro fuel
  induction fuel with
  | zero => intro t listed a A h; simpa [Region.linearise.go] using hJ.move rfl (fun w => stepG_region_end) (hk _ _ h.2)
  | succ fuel ih =>
    intro t listed a A h
    obtain ⟨h₀, h₁⟩ := h
    simp only [Region.linearise.go]
    change J (G (ato b a (.inRegion ops (match (Region.ready md ops listed)[t % (Region.ready md ops listed).length]? with
      | some i => Region.linearise.go md ops fuel (t / (Region.ready md ops listed).length) (listed.setIfInBounds i true) [i]
      | none => [].reverse) :: k)) cs) A
    cases hi : (Region.ready md ops listed)[t % (Region.ready md ops listed).length]? with
    | none =>
      have hnil : Region.ready md ops listed = [] := by
        cases hr : Region.ready md ops listed with
        | nil => rfl
        | cons x xs =>
          rw [hr] at hi
          have hlt : t % (x :: xs).length < (x :: xs).length := Nat.mod_lt _ (by simp)
          simp at hi
          simp at hlt
          omega
      simpa using hJ.move rfl (fun w => stepG_region_end) (hk _ _ (h₀ hnil))
    | some i =>
      simp only []
      rw [linearise_go_acc, List.reverse_singleton, List.singleton_append]
      obtain ⟨o, ho, hop⟩ := h₁ i (List.mem_of_getElem? hi)
      exact hop.run hJ hb ho fun a' A' hx => ih _ _ a' A' hx
variable {n : Nat} {ops : List Oper} {F f : Fr} {Inv : World → Prop}
def YlL (P : Program) (n : Nat) (ops : Array Oper) (Inv : World → Prop) (F : Fr) : List Oper → List (Nat × Value) → Prop
  | [], [] => True
  | o :: l, (d, v) :: r => o.dst = some d ∧ (∀ w, Inv w → WpO P n ops (fun f' w' => f' = up F d v ∧ Inv w') [o] F w) ∧ YlL P n ops Inv F l r
  | _, _ => False
theorem yll_nil {ops : Array Oper} : YlL P n ops Inv F [] [] := trivial
theorem yll_cons {ops : Array Oper} {o : Oper} {l : List Oper} {d : Nat} {v : Value} {r : List (Nat × Value)} (hd : o.dst = some d)
    (h : ∀ w, Inv w → WpO P n ops (fun f' w' => f' = up F d v ∧ Inv w') [o] F w) (t : YlL P n ops Inv F l r) : YlL P n ops Inv F (o :: l) ((d, v) :: r) := ⟨hd, h, t⟩
theorem yl {ops : Array Oper} {o : Oper} {l : List Oper} {d : Nat} {v : Value} {r : List (Nat × Value)} (hd : o.dst = some d)
    (h : ∀ w, Inv w → WpO P n ops (fun f' w' => f' = up F d v ∧ Inv w') [] (up F d v) w → WpO P n ops (fun f' w' => f' = up F d v ∧ Inv w') [o] F w) (t : YlL P n ops Inv F l r) : YlL P n ops Inv F (o :: l) ((d, v) :: r) :=
  yll_cons hd (fun w hi => h w hi (wpo_nil ⟨rfl, hi⟩)) t
theorem loc {i d : Nat} {o : Oper} {v : Value} {w : World} {a aF : Act} {K : Act → World → Prop} (hKe : ∀ a A A1, K a A → Ext A A1 → A1.tape = A.tape → K a A1) (ho : ops[i]? = some o) (hs : notSel o = true) (hd : o.dst = some d) (hdn : d < n) (hF : FEq n aF F)
    (h : WpO P n ops.toArray (fun f' w' => f' = up F d v ∧ Inv w') [o] F w) (hl : ∀ t ∈ looks ops o, a.tmps.getD t undef = F t)
    (hK : ∀ w', Inv w' → K (a.put (some d) v) w') : OpG P ops.toArray o K a w := by
  have h1 := opG_of (o := o) h hF
  have hval : ∀ u w', (∃ f', FEq n (aF.put o.dst u) f' ∧ WpO P n ops.toArray (fun f' w' => f' = up F d v ∧ Inv w') [] f' w') → u = v ∧ K (a.put (some d) v) w' := by
    rintro u w' ⟨f', hf, A0, hE, hT, rfl, hi⟩
    rw [hd] at hf
    refine ⟨?_, hKe _ _ _ (hK _ hi) hE hT⟩
    have e1 := hf.at_ d
    rw [up_eq, if_pos rfl] at e1
    rw [← e1]
    simp [Act.put, Array.getD, hF.size, hdn]
  have he : execOp a.eval o = execOp aF.eval o := Go.Dw.execOp_congr hs fun x hx => by
    cases x with
    | tmp t =>
      show a.tmps.getD t undef = aF.tmps.getD t undef
      rw [hl t (by simp only [looks]; refine List.mem_append_left _ (List.mem_filterMap.2 ⟨_, by simpa using hx, rfl⟩)), hF.at_ t]
    | _ => rfl
  have hw : Region.wanted o (yielded ops.toArray a.tmps) = Region.wanted o (yielded ops.toArray aF.tmps) := by
    unfold Region.wanted
    cases hg : o.guard with
    | none => rfl
    | some g =>
      obtain ⟨j, b⟩ := g
      simp only
      rw [yielded_getD _ a.tmps aF.tmps j]
      intro oj dj hoj hdj
      rw [hF.at_ dj]
      refine hl dj ?_
      simp only [looks, hg]
      refine List.mem_append_right _ ?_
      have hoj' : ops[j]? = some oj := by simpa using hoj
      simp [hoj', hdj]
  have hput : a.put o.dst v = a.put (some d) v := by rw [hd]
  unfold OpG
  rw [hw, he]
  rcases h1 with ⟨h1, ⟨h2, h3⟩ | ⟨R, h4, h5⟩⟩ | ⟨h1, h3⟩
  · refine Or.inl ⟨h1, Or.inl ⟨h2, fun A1 hE => ?_⟩⟩
    obtain ⟨x, u, A1', h4, h5, h6⟩ := h3 A1 hE
    obtain ⟨rfl, hi⟩ := hval _ _ h6
    exact ⟨x, u, A1', h4, h5, hput ▸ hi⟩
  · refine Or.inl ⟨h1, Or.inr ⟨R, h4, fun u A' hR => ?_⟩⟩
    obtain ⟨rfl, hi⟩ := hval _ _ (h5 u A' hR)
    exact hput ▸ hi
  · obtain ⟨e, hi⟩ := hval _ _ h3
    rw [e]
    exact Or.inr ⟨h1, hput ▸ hi⟩
theorem wpAny_tail {md : Region.Mode} {m : Nat} {bs : List (List Nat)} {K : Act → World → Prop} (hmd : md = .any) (hck : ∀ i o, ops[i]? = some o → tailOne m bs i o = true) (hbs : ∀ (listed : Array Bool) (i : Nat) (o : Oper), ops[i]? = some o →
      (∀ e ∈ o.after, Region.binds .any e = true → listed.getD e.on false = true) → (∀ j, listed.getD j false = true → ∀ q ∈ bs.getD j [], listed.getD q false = true) → ∀ q ∈ bs.getD i [], listed.getD q false = true) :
    ∀ (fuel k : Nat) (listed : Array Bool) (a : Act) (w : World), m ≤ k → k ≤ ops.length → listed.size = ops.length → (∀ j, j < k → listed.getD j false = true) → (∀ j, k ≤ j → j < ops.length → listed.getD j false = false) →
      (∀ j, listed.getD j false = true → ∀ q ∈ bs.getD j [], listed.getD q false = true) → ops.length - k ≤ fuel → LstG P ops.toArray K (ops.drop k) a w → AnyJ P md ops.toArray K fuel listed a w := by
  subst hmd
  intro fuel
  induction fuel with
  | zero =>
    intro k listed a w hmk hk hsz h1 h2 hcl hf h
    have hke : k = ops.length := by omega
    subst hke
    refine ⟨?_, by simpa [LstG] using h⟩
    unfold Region.ready
    rw [List.filter_eq_nil_iff]
    intro i hi
    have hi' : i < ops.length := by simpa using hi
    have hl := h1 i hi'
    have : listed.getD i true = true := by
      rw [Array.getD_eq_getD_getElem?] at hl ⊢
      cases hx : listed[i]? with
      | none => rfl
      | some b => rw [hx] at hl; simpa using hl
    simp [this]
  | succ fuel ih =>
    intro k listed a w hmk hk hsz h1 h2 hcl hf h
    have hready : ∀ i, i ∈ Region.ready .any ops.toArray listed → i = k ∧ k < ops.length := by
      intro i hi
      obtain ⟨hun, o, ho, hall⟩ := mem_ready.1 hi
      have ho' : ops[i]? = some o := by simpa using ho
      have hil : i < ops.length := (List.getElem?_eq_some_iff.1 ho').1
      have hun' : listed.getD i false = false := by
        rw [Array.getD_eq_getD_getElem?] at hun ⊢
        cases hx : listed[i]? with
        | none => rfl
        | some b => rw [hx] at hun; simpa using hun
      have hik : k ≤ i := by
        rcases Nat.lt_or_ge i k with h' | h'
        · rw [h1 i h'] at hun'; cases hun'
        · exact h'
      have hpre := hbs listed i o ho' (fun e he hb => hall e he hb) hcl
      have hone := hck i o ho'
      unfold tailOne at hone
      simp only [Bool.and_eq_true] at hone
      have h3 := hone.2
      rw [show decide (i < m) = false by simp; omega, Bool.false_or] at h3
      refine ⟨?_, by omega⟩
      rcases Nat.lt_or_ge k i with h' | h'
      · have := List.all_eq_true.1 h3 k (by simpa using h')
        have hmem : k ∈ bs.getD i [] := by simpa using this
        have := hpre k hmem
        rw [h2 k (Nat.le_refl _) (by omega)] at this
        cases this
      · omega
    rcases Nat.lt_or_ge k ops.length with hkl | hkl
    · obtain ⟨o, ho⟩ : ∃ o, ops[k]? = some o := ⟨_, List.getElem?_eq_getElem hkl⟩
      have hdrop : ops.drop k = o :: ops.drop (k + 1) := by
        rw [List.drop_eq_getElem_cons hkl]
        congr 1
        rw [List.getElem?_eq_getElem hkl] at ho
        exact Option.some.inj ho
      rw [hdrop] at h
      refine ⟨fun hnil => ?_, fun i hi => ?_⟩
      · exfalso
        have hkr : k ∈ Region.ready .any ops.toArray listed := by
          refine mem_ready.2 ⟨?_, o, by simpa using ho, fun e he hb => ?_⟩
          · have := h2 k (Nat.le_refl _) hkl
            rw [Array.getD_eq_getD_getElem?, Array.getElem?_eq_getElem (by omega)] at this ⊢
            simpa using this
          · have hone := hck k o ho
            unfold tailOne at hone
            simp only [Bool.and_eq_true] at hone
            have := List.all_eq_true.1 hone.1.1 e (by simpa using he)
            simp only [hb, Bool.not_true, Bool.false_or, decide_eq_true_eq] at this
            exact h1 _ this
        rw [hnil] at hkr
        cases hkr
      · obtain ⟨rfl, _⟩ := hready i hi
        have ho' : ops.toArray[i]? = some o := by simpa using ho
        have hnext : ∀ a w, LstG P ops.toArray K (ops.drop (i + 1)) a w → AnyJ P .any ops.toArray K fuel (listed.setIfInBounds i true) a w := fun a w hh =>
          ih (i + 1) _ a w (by omega) hkl (by simp [hsz]) (fun j hj => by
            rcases Nat.lt_or_ge j i with h' | h'
            · have := h1 j h'
              rw [Array.getD_eq_getD_getElem?] at this ⊢
              rw [Array.getElem?_setIfInBounds_ne (by omega)]; exact this
            · have : j = i := by omega
              subst this
              rw [Array.getD_eq_getD_getElem?, Array.getElem?_setIfInBounds_self_of_lt (by omega)]; rfl)
            (fun j hj hjl => by
              have := h2 j (by omega) hjl
              rw [Array.getD_eq_getD_getElem?] at this ⊢
              rw [Array.getElem?_setIfInBounds_ne (by omega)]; exact this)
            (fun j hj q hq => by
              have hq' : listed.getD q false = true := by
                rcases Nat.decEq j i with hne | he
                · refine hcl j ?_ q hq
                  rw [Array.getD_eq_getD_getElem?, Array.getElem?_setIfInBounds_ne (fun e => hne e.symm)] at hj
                  rw [Array.getD_eq_getD_getElem?]; exact hj
                · subst he
                  obtain ⟨_, o2, ho2, hall⟩ := mem_ready.1 hi
                  exact hbs listed j o2 (by simpa using ho2) (fun e he hb => hall e he hb) hcl q hq
              rw [Array.getD_eq_getD_getElem?] at hq' ⊢
              by_cases hqi : q = i
              · subst hqi
                rw [Array.getElem?_setIfInBounds_self_of_lt (by omega)]; rfl
              · rw [Array.getElem?_setIfInBounds_ne (fun e => hqi e.symm)]; exact hq')
            (by omega) hh
        exact ⟨o, ho', h.mono hnext⟩
    · have hke : k = ops.length := by omega
      subst hke
      refine ⟨fun _ => by simpa [LstG] using h, fun i hi => ?_⟩
      have := (hready i hi).2
      omega
theorem yll_get {opsA : Array Oper} : ∀ (l : List Oper) (r : List (Nat × Value)), YlL P n opsA Inv F l r → l.length = r.length ∧ ∀ (i : Nat) (o : Oper), l[i]? = some o → ∃ (d : Nat) (v : Value), r[i]? = some (d, v) ∧ o.dst = some d ∧ ∀ w, Inv w → WpO P n opsA (fun f' w' => f' = up F d v ∧ Inv w') [o] F w
  | [], [], _ => ⟨rfl, fun i o h => by simp at h⟩
  | [], _ :: _, h => h.elim
  | _ :: _, [], h => h.elim
  | o :: l, (d, v) :: r, ⟨h1, h2, h3⟩ => by
    obtain ⟨hl, hg⟩ := yll_get l r h3
    refine ⟨by simp [hl], fun i o' h => ?_⟩
    cases i with
    | zero =>
      simp at h
      subst h
      exact ⟨d, v, rfl, h1, h2⟩
    | succ i => simpa using hg i o' (by simpa using h)
theorem wpAny_draw {m : Nat} {bs : List (List Nat)} {vals : List (Nat × Value)} {Kf : Fr → World → Prop} {K : Act → World → Prop} {aF : Act} (hext : ∀ a A A1, K a A → Ext A A1 → A1.tape = A.tape → K a A1) (hck : drawOk n m ops bs = true) (hF : F = ups f vals) (haF : FEq n aF F)
    (hpre : YlL P n ops.toArray Inv F (ops.take m) vals) (htail : ∀ w, Inv w → WpO P n ops.toArray Kf (ops.drop m) F w) (hQ : ∀ a' f' w', FEq n a' f' → Kf f' w' → K a' w') :
    ∀ (fuel : Nat) (listed : Array Bool) (a : Act) (w : World), a.defers = [] → a.tmps.size = n → listed.size = ops.length → Inv w → (∀ j, m ≤ j → listed.getD j false = false) →
      (∀ j, listed.getD j false = true → ∀ q ∈ bs.getD j [], listed.getD q false = true) →
      (∀ t, (∀ j o, j < m → listed.getD j false = true → ops[j]? = some o → o.dst ≠ some t) → a.tmps.getD t undef = f t) →
      (∀ j o t, j < m → listed.getD j false = true → ops[j]? = some o → o.dst = some t → a.tmps.getD t undef = F t) → cnt listed ops.length ≤ fuel → AnyJ P .any ops.toArray K fuel listed a w := by
  obtain ⟨hm, hdist, hone⟩ := Go.Dw.drawOk_spec hck
  obtain ⟨hlen, hget⟩ := yll_get _ _ hpre
  have htk : ∀ i o, i < m → ops[i]? = some o → (ops.take m)[i]? = some o := fun i o hi ho => by rw [List.getElem?_take, if_pos hi]; exact ho
  have hFd : ∀ i o d v, i < m → ops[i]? = some o → vals[i]? = some (d, v) → o.dst = some d → F d = v := fun i o d v hi ho hv hd => by
    rw [hF]
    refine ups_get vals f i hv fun j p hj e => ?_
    have hjm : j < m := by
      have := (List.getElem?_eq_some_iff.1 hj).1
      rw [← hlen] at this
      simp at this
      omega
    rcases Nat.decEq j i with hne | he
    · exfalso
      obtain ⟨oj, hoj⟩ : ∃ oj, ops[j]? = some oj := ⟨_, List.getElem?_eq_getElem (by omega)⟩
      obtain ⟨d', v', hv', hd', _⟩ := hget j oj (htk j oj hjm hoj)
      rw [hj] at hv'
      have := Option.some.inj hv'
      subst this
      exact hdist j i oj o hjm hi hne hoj ho (by rw [hd', hd, ← e])
    · exact he
  have hFo : ∀ t, (∀ j o, j < m → ops[j]? = some o → o.dst ≠ some t) → F t = f t := fun t ht => by
    rw [hF]
    refine ups_not vals f fun p hp e => ?_
    obtain ⟨j, hj⟩ := List.getElem?_of_mem hp
    have hjm : j < m := by
      have := (List.getElem?_eq_some_iff.1 hj).1
      rw [← hlen] at this
      simp at this
      omega
    obtain ⟨oj, hoj⟩ : ∃ oj, ops[j]? = some oj := ⟨_, List.getElem?_eq_getElem (by omega)⟩
    obtain ⟨d', v', hv', hd', _⟩ := hget j oj (htk j oj hjm hoj)
    rw [hj] at hv'
    have := Option.some.inj hv'
    subst this
    exact ht j oj hjm hoj (by rw [hd', ← e])
  intro fuel
  induction fuel with
  | zero =>
    intro listed a w had hsz hls hi hlow hcl hout hin hcnt
    have hz := cnt_zero _ (Nat.le_zero.1 hcnt)
    refine wpAny_tail rfl (fun i o ho => tailOne_of (hone i o ho)) (fun l i o ho hall hc => drawOne_closed (hone i o ho) l hall hc) 0 m listed a w (Nat.le_refl _) hm hls (fun j hj => hz j (by omega)) (fun j hj _ => hlow j hj) hcl ?_ ?_
    · have := cnt_ge (listed := listed) (m := m) ops.length fun j h1 _ => hlow j h1
      omega
    · refine lstG_of hext hQ _ _ _ a ⟨had, hsz, fun t => ?_⟩ (htail w hi)
      by_cases hx : ∃ j o, j < m ∧ ops[j]? = some o ∧ o.dst = some t
      · obtain ⟨j, o, hj, ho, hd⟩ := hx
        exact hin j o t hj (hz j (by omega)) ho hd
      · rw [hFo t fun j o hj ho hd => hx ⟨j, o, hj, ho, hd⟩]
        exact hout t fun j o hj _ ho hd => hx ⟨j, o, hj, ho, hd⟩
  | succ fuel ih =>
    intro listed a w had hsz hls hi hlow hcl hout hin hcnt
    by_cases hall : ∀ j, j < m → listed.getD j false = true
    · refine wpAny_tail rfl (fun i o ho => tailOne_of (hone i o ho)) (fun l i o ho hall hc => drawOne_closed (hone i o ho) l hall hc) (fuel + 1) m listed a w (Nat.le_refl _) hm hls hall (fun j hj _ => hlow j hj) hcl ?_ ?_
      · have := cnt_ge (listed := listed) (m := m) ops.length fun j h1 _ => hlow j h1
        omega
      · refine lstG_of hext hQ _ _ _ a ⟨had, hsz, fun t => ?_⟩ (htail w hi)
        by_cases hx : ∃ j o, j < m ∧ ops[j]? = some o ∧ o.dst = some t
        · obtain ⟨j, o, hj, ho, hd⟩ := hx
          exact hin j o t hj (hall j hj) ho hd
        · rw [hFo t fun j o hj ho hd => hx ⟨j, o, hj, ho, hd⟩]
          exact hout t fun j o hj _ ho hd => hx ⟨j, o, hj, ho, hd⟩
    · obtain ⟨j0, hj0, hun0, hbelow⟩ := least m hall
      refine ⟨fun hnil => ?_, fun i hir => ?_⟩
      · exfalso
        obtain ⟨o, ho⟩ : ∃ o, ops[j0]? = some o := ⟨_, List.getElem?_eq_getElem (by omega)⟩
        have hkr : j0 ∈ Region.ready .any ops.toArray listed := by
          refine mem_ready.2 ⟨?_, o, by simpa using ho, fun e he hb => ?_⟩
          · rw [Array.getD_eq_getD_getElem?, Array.getElem?_eq_getElem (by omega)] at hun0 ⊢
            simpa using hun0
          · have h1 := hone j0 o ho
            unfold drawOne at h1
            simp only [Bool.and_eq_true] at h1
            have := List.all_eq_true.1 h1.1.1 e (by simpa using he)
            simp only [hb, Bool.not_true, Bool.false_or, decide_eq_true_eq] at this
            exact hbelow _ this
        rw [hnil] at hkr
        cases hkr
      · obtain ⟨hun, o, ho, hafter⟩ := mem_ready.1 hir
        have ho' : ops[i]? = some o := by simpa using ho
        have hil : i < ops.length := (List.getElem?_eq_some_iff.1 ho').1
        have hun' : listed.getD i false = false := by
          rw [Array.getD_eq_getD_getElem?, Array.getElem?_eq_getElem (by omega)] at hun ⊢
          simpa using hun
        have hprei := drawOne_closed (hone i o ho') listed (fun e he hb => hafter e he hb) hcl
        have h1 := hone i o ho'
        unfold drawOne at h1
        simp only [Bool.and_eq_true] at h1
        obtain ⟨_, h1⟩ := h1
        have him : i < m := by
          rcases Nat.lt_or_ge i m with h' | h'
          · exact h'
          · exfalso
            rw [if_neg (by omega)] at h1
            have := List.all_eq_true.1 h1 j0 (by simp; omega)
            have := hprei j0 (by simpa using this)
            rw [hun0] at this
            cases this
        rw [if_pos him] at h1
        simp only [Bool.and_eq_true] at h1
        obtain ⟨⟨hsel, hdn⟩, hlooks⟩ := h1
        obtain ⟨d, v, hv, hd, hwp⟩ := hget i o (htk i o him ho')
        rw [hd] at hdn
        have hdn' : d < n := by simpa using hdn
        refine ⟨o, ho, loc (fun a A A1 h => AnyJ.ext hext h) ho' hsel hd hdn' haF (hwp w hi) (fun t ht => ?_) fun w' hi' => ?_⟩
        · have h2 := List.all_eq_true.1 hlooks t ht
          by_cases hx : ∃ j oj, j < m ∧ ops[j]? = some oj ∧ oj.dst = some t
          · obtain ⟨j, oj, hj, hoj, hdj⟩ := hx
            have h3 := List.all_eq_true.1 h2 j (by simpa using hj)
            rw [hoj] at h3
            simp [hdj] at h3
            exact hin j oj t hj (hprei j (by simpa using h3)) hoj hdj
          · rw [hFo t fun j o hj ho hd => hx ⟨j, o, hj, ho, hd⟩]
            exact hout t fun j o hj _ ho hd => hx ⟨j, o, hj, ho, hd⟩
        · have hput : ∀ t, t ≠ d → (a.put (some d) v).tmps.getD t undef = a.tmps.getD t undef := fun t ht => by
            simp only [Act.put]
            rw [Array.getD_eq_getD_getElem?, Array.getElem?_setIfInBounds_ne (fun e => ht e.symm), Array.getD_eq_getD_getElem?]
          have hputd : (a.put (some d) v).tmps.getD d undef = v := by
            simp only [Act.put]
            rw [Array.getD_eq_getD_getElem?, Array.getElem?_setIfInBounds_self_of_lt (by omega)]; rfl
          have hFv : F d = v := hFd i o d v him ho' hv hd
          refine ih _ _ w' had (by simp [Act.put, hsz]) (by simp [hls]) hi' (fun j hj => by rw [getD_set_ne (by omega)]; exact hlow j hj) (fun j hj q hq => ?_) (fun t ht => ?_) (fun j oj t hj hlj hoj hdj => ?_) ?_
          · have hq' : listed.getD q false = true := by
              rcases Nat.decEq j i with hne | he
              · rw [getD_set_ne hne] at hj
                exact hcl j hj q hq
              · subst he
                exact hprei q hq
            by_cases hqi : q = i
            · rw [hqi]; exact getD_set_self (by omega)
            · rw [getD_set_ne hqi]; exact hq'
          · have htd : t ≠ d := fun e => ht i o him (getD_set_self (by omega)) ho' (by rw [hd, e])
            rw [hput t htd]
            exact hout t fun j oj hj hlj hoj => ht j oj hj (by
              by_cases hji : j = i
              · rw [hji]; exact getD_set_self (by omega)
              · rw [getD_set_ne hji]; exact hlj) hoj
          · rcases Nat.decEq t d with htd | htd
            · rw [hput t htd]
              rcases Nat.decEq j i with hne | he
              · rw [getD_set_ne hne] at hlj
                exact hin j oj t hj hlj hoj hdj
              · subst he
                rw [ho'] at hoj
                obtain rfl := Option.some.inj hoj
                rw [hd] at hdj
                exact absurd (Option.some.inj hdj).symm htd
            · subst htd
              rw [hputd, hFv]
          · have := cnt_set (listed := listed) (i := i) (by omega) hun' ops.length hil
            omega
theorem Closed.draw {J : Goroutine → World → Prop} (hJ : Closed P J) {ops : Array Oper} {b : Frame} (hb : b.kind ≠ .early) {K : Act → World → Prop} {k : List Item} {cs : List Frame} {a : Act} {w : World} {id : Nat} (hmx : P.follows .mixedOrders = true) (hk : ∀ a A, K a A → J (G (ato b a k) cs) A)
    (h : AnyJ P .any ops K ops.size (Array.replicate ops.size false) a w.drew) : J (G (ato b a (.code (.region id ops true) :: k)) cs) w :=
  hJ.step _ _ (.quiet rfl fun w1 hs => ⟨_, w.drew, { w1 with drawn := w1.drawn + 1 }, #[], stepG_region_draw, rfl, ⟨hs.os, hs.output, hs.size, hs.vis, hs.nv⟩, ⟨fun b _ h => ⟨rfl, h⟩, fun b h => ⟨rfl, rfl⟩, fun b _ h => h, fun b h => h, Nat.le_refl _, rfl, rfl, rfl, fun b _ h => h⟩, by simp, by
    simp only [Region.schedule, hmx, Bool.true_or, if_true]
    exact anyJ_run hJ hb hk _ _ _ _ _ h⟩)
theorem wpf_draw {id : Nat} {w : World} {Q : Exit → Fr → World → Prop} (m : Nat) (vals : List (Nat × Value)) (Inv : World → Prop) (hmx : P.follows .mixedOrders = true) (hck : drawOk n m ops (befores ops) = true) (h0 : Inv w.drew)
    (hpre : YlL P n ops.toArray Inv (ups f vals) (ops.take m) vals) (htail : ∀ w', Inv w' → WpO P n ops.toArray (Q .normal) (ops.drop m) (ups f vals) w') : Wpf P n Q (.region id ops.toArray true) f w := fun J hJ b hb k cs a ha hc => by
  obtain ⟨hm, _, hone⟩ := Go.Dw.drawOk_spec hck
  obtain ⟨hlen, hget⟩ := yll_get _ _ hpre
  obtain ⟨aF, haF⟩ := ups_feq vals a f ha fun p hp => by
    obtain ⟨j, hj⟩ := List.getElem?_of_mem hp
    have hjm : j < m := by
      have := (List.getElem?_eq_some_iff.1 hj).1
      rw [← hlen] at this
      simp at this
      omega
    obtain ⟨oj, hoj⟩ : ∃ oj, ops[j]? = some oj := ⟨_, List.getElem?_eq_getElem (by omega)⟩
    obtain ⟨d, v, hv, hd, _⟩ := hget j oj (by rw [List.getElem?_take, if_pos hjm]; exact hoj)
    rw [hj] at hv
    have := Option.some.inj hv
    subst this
    have h1 := hone j oj hoj
    unfold drawOne at h1
    simp only [Bool.and_eq_true, if_pos hjm, hd] at h1
    simpa using h1.2.1.2
  refine hJ.draw (K := fun a A => J (G (ato b a k) cs) A) hb hmx (fun _ _ h => h) ?_
  have hrep : ∀ j, (Array.replicate ops.toArray.size false).getD j false = false := fun j => by
    rw [Array.getD_eq_getD_getElem?]
    cases h : (Array.replicate ops.toArray.size false)[j]? with
    | none => rfl
    | some b => rw [Array.getElem?_replicate] at h; split at h <;> simp_all
  refine wpAny_draw (Kf := Q .normal) (K := fun a A => J (G (ato b a k) cs) A) (fun a A A1 hh hE hT => hJ.ext _ _ _ hE hT hh) hck rfl haF hpre htail (fun a' f' w' hf hK => hc .normal a' f' w' hf hK) _ _ a _ ha.defers ha.size (by simp) h0 (fun j _ => hrep j) (fun j hj => by rw [hrep j] at hj; cases hj) (fun t _ => ha.at_ t) (fun j o t _ hj => by rw [hrep j] at hj; cases hj) ?_
  rw [show ops.toArray.size = ops.length by simp, cnt_init]
  exact Nat.le_refl _
theorem wpAny_drawI {m : Nat} {bs : List (List Nat)} {I : (Nat → Bool) → Fr → World → Prop} {Kf : Fr → World → Prop} {K : Act → World → Prop} (hext : ∀ a A A1, K a A → Ext A A1 → A1.tape = A.tape → K a A1) (hm : m ≤ ops.length) (hone : ∀ i o, ops[i]? = some o → tailOne m bs i o = true)
    (hpre : ∀ i o, i < m → ops[i]? = some o → ∀ S F w, S i = false → (∀ j ∈ bs.getD i [], S j = true) → (∀ j, S j = true → ∀ q ∈ bs.getD j [], S q = true) → I S F w →
      WpO P n ops.toArray (fun F' w' => I (fun j => j == i || S j) F' w') [o] F w)
    (htail : ∀ S F w, (∀ j, j < m → S j = true) → I S F w → WpO P n ops.toArray Kf (ops.drop m) F w) (hQ : ∀ a' f' w', FEq n a' f' → Kf f' w' → K a' w') :
    ∀ (fuel : Nat) (listed : Array Bool) (a : Act) (F : Fr) (w : World), FEq n a F → listed.size = ops.length → I (fun j => listed.getD j false) F w → (∀ j, m ≤ j → listed.getD j false = false) →
      (∀ j, listed.getD j false = true → ∀ q ∈ bs.getD j [], listed.getD q false = true) → cnt listed ops.length ≤ fuel → AnyJ P .any ops.toArray K fuel listed a w := by
  intro fuel
  induction fuel with
  | zero =>
    intro listed a F w ha hls hi hlow hcl hcnt
    have hz := cnt_zero _ (Nat.le_zero.1 hcnt)
    refine wpAny_tail rfl hone (fun l i o ho hall hc => Go.Dw.tailOne_closed (hone i o ho) l hall hc) 0 m listed a w (Nat.le_refl _) hm hls (fun j hj => hz j (by omega)) (fun j hj _ => hlow j hj) hcl ?_ ?_
    · have := cnt_ge (listed := listed) (m := m) ops.length fun j h1 _ => hlow j h1
      omega
    · exact lstG_of hext hQ _ _ _ a ha (htail _ F w (fun j hj => hz j (by omega)) hi)
  | succ fuel ih =>
    intro listed a F w ha hls hi hlow hcl hcnt
    by_cases hall : ∀ j, j < m → listed.getD j false = true
    · refine wpAny_tail rfl hone (fun l i o ho hall hc => Go.Dw.tailOne_closed (hone i o ho) l hall hc) (fuel + 1) m listed a w (Nat.le_refl _) hm hls hall (fun j hj _ => hlow j hj) hcl ?_ ?_
      · have := cnt_ge (listed := listed) (m := m) ops.length fun j h1 _ => hlow j h1
        omega
      · exact lstG_of hext hQ _ _ _ a ha (htail _ F w hall hi)
    · obtain ⟨j0, hj0, hun0, hbelow⟩ := least m hall
      refine ⟨fun hnil => ?_, fun i hir => ?_⟩
      · exfalso
        obtain ⟨o, ho⟩ : ∃ o, ops[j0]? = some o := ⟨_, List.getElem?_eq_getElem (by omega)⟩
        have hkr : j0 ∈ Region.ready .any ops.toArray listed := by
          refine mem_ready.2 ⟨?_, o, by simpa using ho, fun e he hb => ?_⟩
          · rw [Array.getD_eq_getD_getElem?, Array.getElem?_eq_getElem (by omega)] at hun0 ⊢
            simpa using hun0
          · have h1 := hone j0 o ho
            unfold tailOne at h1
            simp only [Bool.and_eq_true] at h1
            have := List.all_eq_true.1 h1.1.1 e (by simpa using he)
            simp only [hb, Bool.not_true, Bool.false_or, decide_eq_true_eq] at this
            exact hbelow _ this
        rw [hnil] at hkr
        cases hkr
      · obtain ⟨hun, o, ho, hafter⟩ := mem_ready.1 hir
        have ho' : ops[i]? = some o := by simpa using ho
        have hil : i < ops.length := (List.getElem?_eq_some_iff.1 ho').1
        have hun' : listed.getD i false = false := by
          rw [Array.getD_eq_getD_getElem?, Array.getElem?_eq_getElem (by omega)] at hun ⊢
          simpa using hun
        have hprei := Go.Dw.tailOne_closed (hone i o ho') listed (fun e he hb => hafter e he hb) hcl
        have him : i < m := by
          rcases Nat.lt_or_ge i m with h' | h'
          · exact h'
          · exfalso
            have h1 := hone i o ho'
            unfold tailOne at h1
            simp only [Bool.and_eq_true] at h1
            have h3 := h1.2
            rw [show decide (i < m) = false by simp; omega, Bool.false_or] at h3
            have := List.all_eq_true.1 h3 j0 (by simp; omega)
            have := hprei j0 (by simpa using this)
            rw [hun0] at this
            cases this
        refine ⟨o, ho, (opG_of (o := o) (hpre i o him ho' _ F w hun' hprei hcl hi) ha).mono fun a' w' ⟨f', hf, A0, hE, hT, hI'⟩ => ?_⟩
        refine AnyJ.ext hext (A := A0) ?_ hE hT
        refine ih _ _ f' A0 hf (by simp [hls]) ?_ (fun j hj => by rw [getD_set_ne (by omega)]; exact hlow j hj) (fun j hj q hq => ?_) ?_
        · rw [done_set (by omega)]; exact hI'
        · have hq' : listed.getD q false = true := by
            rcases Nat.decEq j i with hne | he
            · rw [getD_set_ne hne] at hj
              exact hcl j hj q hq
            · subst he
              exact hprei q hq
          by_cases hqi : q = i
          · rw [hqi]; exact getD_set_self (by omega)
          · rw [getD_set_ne hqi]; exact hq'
        · have := cnt_set (listed := listed) (i := i) (by omega) hun' ops.length hil
          omega
def PreL (P : Program) (n : Nat) (ops : Array Oper) (bs : List (List Nat)) (I : (Nat → Bool) → Fr → World → Prop) : Nat → List Oper → Prop
  | _, [] => True
  | i, o :: l => (∀ S F w, S i = false → (∀ j ∈ bs.getD i [], S j = true) → (∀ j, S j = true → ∀ q ∈ bs.getD j [], S q = true) → I S F w → WpO P n ops (fun F' w' => I (fun j => j == i || S j) F' w') [o] F w) ∧ PreL P n ops bs I (i + 1) l
theorem preL_nil {ops : Array Oper} {bs : List (List Nat)} {I : (Nat → Bool) → Fr → World → Prop} {i : Nat} : PreL P n ops bs I i [] := trivial
theorem preL_cons {ops : Array Oper} {bs : List (List Nat)} {I : (Nat → Bool) → Fr → World → Prop} {i : Nat} {o : Oper} {l : List Oper}
    (h : ∀ S F w, S i = false → (∀ j ∈ bs.getD i [], S j = true) → (∀ j, S j = true → ∀ q ∈ bs.getD j [], S q = true) → I S F w → WpO P n ops (fun F' w' => I (fun j => j == i || S j) F' w') [o] F w)
    (t : PreL P n ops bs I (i + 1) l) : PreL P n ops bs I i (o :: l) := ⟨h, t⟩
theorem preL_get {opsA : Array Oper} {bs : List (List Nat)} {I : (Nat → Bool) → Fr → World → Prop} : ∀ (l : List Oper) (k i : Nat) (o : Oper), PreL P n opsA bs I k l → l[i]? = some o →
    ∀ S F w, S (k + i) = false → (∀ j ∈ bs.getD (k + i) [], S j = true) → (∀ j, S j = true → ∀ q ∈ bs.getD j [], S q = true) → I S F w → WpO P n opsA (fun F' w' => I (fun j => j == k + i || S j) F' w') [o] F w
  | [], _, _, _, _, ho => by simp at ho
  | p :: l, k, 0, o, h, ho => by
    obtain rfl : p = o := by simpa using ho
    exact h.1
  | p :: l, k, i + 1, o, h, ho => by
    have := preL_get l (k + 1) i o h.2 (by simpa using ho)
    rwa [show k + 1 + i = k + (i + 1) by omega] at this
theorem wpf_drawI {id : Nat} {w : World} {Q : Exit → Fr → World → Prop} (m : Nat) (bs : List (List Nat)) (I : (Nat → Bool) → Fr → World → Prop) (hmx : P.follows .mixedOrders = true) (hck : drawOkI m ops bs = true) (h0 : I (fun _ => false) f w.drew)
    (hpre : PreL P n ops.toArray bs I 0 (ops.take m)) (htail : ∀ S F w, (∀ j, j < m → S j = true) → I S F w → WpO P n ops.toArray (Q .normal) (ops.drop m) F w) : Wpf P n Q (.region id ops.toArray true) f w := fun J hJ b hb k cs a ha hc => by
  unfold drawOkI at hck
  simp only [Bool.and_eq_true, decide_eq_true_eq] at hck
  obtain ⟨hm, hck⟩ := hck
  have hone : ∀ i o, ops[i]? = some o → tailOne m bs i o = true := fun i o ho => by
    have := List.all_eq_true.1 hck i (by simpa using (List.getElem?_eq_some_iff.1 ho).1)
    rw [ho] at this
    exact this
  refine hJ.draw (K := fun a A => J (G (ato b a k) cs) A) hb hmx (fun _ _ h => h) ?_
  have hrep : ∀ j, (Array.replicate ops.toArray.size false).getD j false = false := fun j => by
    rw [Array.getD_eq_getD_getElem?]
    cases h : (Array.replicate ops.toArray.size false)[j]? with
    | none => rfl
    | some b => rw [Array.getElem?_replicate] at h; split at h <;> simp_all
  refine wpAny_drawI (Kf := Q .normal) (K := fun a A => J (G (ato b a k) cs) A) (fun a A A1 hh hE hT => hJ.ext _ _ _ hE hT hh) hm hone (fun i o hi ho S F w h1 h2 h3 h4 => ?_) htail (fun a' f' w' hf hK => hc .normal a' f' w' hf hK) _ _ a f _ ha (by simp) (by simp only [hrep]; exact h0) (fun j _ => hrep j) (fun j hj => by rw [hrep j] at hj; cases hj) ?_
  · have := preL_get _ 0 i o hpre (by rw [List.getElem?_take, if_pos hi]; exact ho) S F w (by simpa using h1) (by simpa using h2) h3 h4
    simpa using this
  · rw [show ops.toArray.size = ops.length by simp, cnt_init]
    exact Nat.le_refl _
end
end Go.Dw.J
end
section
namespace Go.Dw.J
open Go.RowKit Go.Dw Go.Proofs
set_option linter.unusedSectionVars false
set_option maxRecDepth 100000
set_option maxHeartbeats 4000000
set_option linter.unusedSimpArgs false
set_option linter.unusedVariables false
theorem fo_25_0 : fieldOff Try.prog 25 0 = some 0 := by kernel_rfl
theorem fo_25_1 : fieldOff Try.prog 25 1 = some 1 := by kernel_rfl
theorem fo_74_0 : fieldOff Try.prog 74 0 = some 0 := by kernel_rfl
theorem fo_74_1 : fieldOff Try.prog 74 1 = some 1 := by kernel_rfl
theorem fo_74_3 : fieldOff Try.prog 74 3 = some 3 := by kernel_rfl
theorem fo_74_4 : fieldOff Try.prog 74 4 = some 4 := by kernel_rfl
theorem gf_38 : goFn Try.prog 38 = true := by kernel_rfl
theorem gf_48 : goFn Try.prog 48 = true := by kernel_rfl
theorem gf_49 : goFn Try.prog 49 = true := by kernel_rfl
theorem ot_3 : oneTy Try.prog 3 = true := by kernel_rfl
theorem ot_4 : oneTy Try.prog 4 = true := by kernel_rfl
theorem rt_25 : rowTy Try.prog 25 = some 2 := by kernel_rfl
theorem rt_74 : rowTy Try.prog 74 = some 5 := by kernel_rfl
theorem mixed_ : Try.prog.follows .mixedOrders = true := by kernel_rfl
theorem eqG_74 (x y : Operand) (a b : Rt) (w : World) : (eqGuard .eql 74 x y (.agg a.cells.toArray) (.agg b.cells.toArray)).run Try.prog w = .ok () w := by kernel_rfl
theorem eqV_74 (a b : Rt) (w : World) : (binOp .eql 74 (.agg a.cells.toArray) (.agg b.cells.toArray)).run Try.prog w = .ok (.bool (decide (a = b))) w := by
  have h := run_equalIn_struct (P := Try.prog) w 9999 74 a.cells.toArray b.cells.toArray (by kernel_rfl) (by kernel_rfl)
  obtain ⟨a0, a1, a2, a3, a4⟩ := a
  obtain ⟨b0, b1, b2, b3, b4⟩ := b
  simp only [binOp, Op.equal, Op.maxDepth, Sem.run_bind, Rt.cells] at h ⊢
  rw [h]
  simp [go_sem]
  (repeat' split) <;> simp_all
theorem LabelOk_c [Comp] (l : Lab) (w : World) : CallsR Try.prog 38 #[.agg #[.int .i64 l.s, .int .i64 l.v]] w (fun v w' => v = .bool (labelOk l) ∧ w.grownBy w' none) := by
 refine calls_of_wpf (n := 21) Try.func38 rfl Try.ntmps38 rfl ?_
 have hb0 := World.grownBy.refl w none
 refine wpf_seq_region ?_
 refine wpo_box (v := .agg #[.int .i64 l.s, .int .i64 l.v]) (cs := #[.int .i64 l.s, .int .i64 l.v]) rfl rfl rfl ?_
 intro B101 w102 hN103
 have hlB101 := hN_ge hN103 hb0
 have hb104 := low0 hb0 hN103.grw
 refine wpo_assign (v := .bool false) rfl rfl ?_
 refine wpo_nil ?_
 refine wpf_seq_region_mid (fun f' w' => (f' 2 = .bool ((((decide (0 ≤ l.s)) && (decide (l.s ≤ 3))) && (decide (0 ≤ l.v))) && (decide (l.v ≤ 3)))) ∧ w102 = w') ?_ ?_
 ·
  refine wpo_fieldAddr (o' := 0) fo_25_0 rfl rfl rfl ?_
  refine wpo_load1 (v := .int .i64 l.s) ot_3 rfl (hN103.blk.cell rfl) rfl ?_
  refine wpo_geq (q := decide (0 ≤ l.s)) rfl rfl rfl rfl ?_
  refine wpo_move (v := .bool (decide (0 ≤ l.s))) rfl rfl ?_
  rcases bcases (decide (0 ≤ l.s)) with h105 | h105
  ·
   have h106 := of_decide_eq_true h105
   refine wpo_run rfl rfl rfl h105 ?_
   refine wpo_fieldAddr (o' := 0) fo_25_0 rfl rfl rfl ?_
   refine wpo_run rfl rfl rfl h105 ?_
   refine wpo_load1 (v := .int .i64 l.s) ot_3 rfl (hN103.blk.cell rfl) rfl ?_
   refine wpo_run rfl rfl rfl h105 ?_
   refine wpo_leq (q := decide (l.s ≤ 3)) rfl rfl rfl rfl ?_
   refine wpo_pickt (v := .bool (decide (l.s ≤ 3))) rfl h105 rfl rfl ?_
   refine wpo_move (v := .bool (decide (l.s ≤ 3))) rfl rfl ?_
   rcases bcases (decide (l.s ≤ 3)) with h107 | h107
   ·
    have h108 := of_decide_eq_true h107
    refine wpo_run rfl rfl rfl h107 ?_
    refine wpo_fieldAddr (o' := 1) fo_25_1 rfl rfl rfl ?_
    refine wpo_run rfl rfl rfl h107 ?_
    refine wpo_load1 (v := .int .i64 l.v) ot_3 rfl (hN103.blk.cell rfl) rfl ?_
    refine wpo_run rfl rfl rfl h107 ?_
    refine wpo_geq (q := decide (0 ≤ l.v)) rfl rfl rfl rfl ?_
    refine wpo_pickt (v := .bool (decide (0 ≤ l.v))) rfl h107 rfl rfl ?_
    refine wpo_move (v := .bool (decide (0 ≤ l.v))) rfl rfl ?_
    rcases bcases (decide (0 ≤ l.v)) with h109 | h109
    ·
     have h110 := of_decide_eq_true h109
     refine wpo_run rfl rfl rfl h109 ?_
     refine wpo_fieldAddr (o' := 1) fo_25_1 rfl rfl rfl ?_
     refine wpo_run rfl rfl rfl h109 ?_
     refine wpo_load1 (v := .int .i64 l.v) ot_3 rfl (hN103.blk.cell rfl) rfl ?_
     refine wpo_run rfl rfl rfl h109 ?_
     refine wpo_leq (q := decide (l.v ≤ 3)) rfl rfl rfl rfl ?_
     refine wpo_pickt (v := .bool (decide (l.v ≤ 3))) rfl h109 rfl rfl ?_
     refine wpo_assign (v := .bool (decide (l.v ≤ 3))) rfl rfl ?_
     exact wpo_nil ⟨(congrArg Value.bool (by first | (simp only [h105, h107, h109, b0, b1, b2, b3, b4, b5, b6, b7, b8, b9]; done) | simp [h105, h107, h109])), rfl⟩
    ·
     have h111 := of_decide_eq_false h109
     iterate 3 refine wpo_pass rfl rfl rfl h109 rfl ?_
     refine wpo_pickf (v := .bool false) rfl h109 rfl rfl ?_
     refine wpo_assign (v := .bool false) rfl rfl ?_
     exact wpo_nil ⟨(congrArg Value.bool (by first | (simp only [h105, h107, h109, b0, b1, b2, b3, b4, b5, b6, b7, b8, b9]; done) | simp [h105, h107, h109])), rfl⟩
   ·
    have h112 := of_decide_eq_false h107
    iterate 3 refine wpo_pass rfl rfl rfl h107 rfl ?_
    refine wpo_pickf (v := .bool false) rfl h107 rfl rfl ?_
    refine wpo_move (v := .bool false) rfl rfl ?_
    iterate 3 refine wpo_pass rfl rfl rfl rfl rfl ?_
    refine wpo_pickf (v := .bool false) rfl rfl rfl rfl ?_
    refine wpo_assign (v := .bool false) rfl rfl ?_
    exact wpo_nil ⟨(congrArg Value.bool (by first | (simp only [h105, h107, b0, b1, b2, b3, b4, b5, b6, b7, b8, b9]; done) | simp [h105, h107])), rfl⟩
  ·
   have h113 := of_decide_eq_false h105
   iterate 3 refine wpo_pass rfl rfl rfl h105 rfl ?_
   refine wpo_pickf (v := .bool false) rfl h105 rfl rfl ?_
   refine wpo_move (v := .bool false) rfl rfl ?_
   iterate 3 refine wpo_pass rfl rfl rfl rfl rfl ?_
   refine wpo_pickf (v := .bool false) rfl rfl rfl rfl ?_
   refine wpo_move (v := .bool false) rfl rfl ?_
   iterate 3 refine wpo_pass rfl rfl rfl rfl rfl ?_
   refine wpo_pickf (v := .bool false) rfl rfl rfl rfl ?_
   refine wpo_assign (v := .bool false) rfl rfl ?_
   exact wpo_nil ⟨(congrArg Value.bool (by first | (simp only [h105, b0, b1, b2, b3, b4, b5, b6, b7, b8, b9]; done) | simp [h105])), rfl⟩
 ·
  rintro f114 w115 ⟨e116, rfl⟩
  refine wpf_ret ?_
  refine ⟨.bool ((((decide (0 ≤ l.s)) && (decide (l.s ≤ 3))) && (decide (0 ≤ l.v))) && (decide (l.v ≤ 3))), res1 rfl e116, ?_, hb104⟩
  simp [labelOk, inR, Bool.and_assoc]
theorem labelSets_c [Comp] (l : Lab) (hl : labelOk l = true) (w : World) : CallsR Try.prog 48 #[.agg #[.int .i64 l.s, .int .i64 l.v]] w (fun v w' => v = .tuple #[.int .u64 l.s, .int .u64 l.v] ∧ w.grownBy w' none) := by
 refine calls_of_wpf (n := 10) Try.func48 rfl Try.ntmps48 rfl ?_
 have hb0 := World.grownBy.refl w none
 obtain ⟨⟨hl1, hl2⟩, hl3, hl4⟩ := (labelOk_iff l).1 hl
 refine wpf_seq_region ?_
 refine wpo_box (v := .agg #[.int .i64 l.s, .int .i64 l.v]) (cs := #[.int .i64 l.s, .int .i64 l.v]) rfl rfl rfl ?_
 intro B101 w102 hN103
 have hlB101 := hN_ge hN103 hb0
 have hb104 := low0 hb0 hN103.grw
 refine wpo_assign (v := .int .u64 0) rfl rfl ?_
 refine wpo_assign (v := .int .u64 0) rfl rfl ?_
 refine wpo_nil ?_
 refine wpf_seq ?_
 refine wpf_draw (m := 7) (vals := [(4, .pointer (some ⟨B101, 0, none⟩)), (5, .int .i64 l.s), (6, .int .u64 l.s), (7, .pointer (some ⟨B101, 1, none⟩)), (8, .int .i64 l.v), (9, .int .u64 l.v), (2, .int .u64 l.s)]) (fun w' => w102.grownBy w' none) mixed_ (by kernel_rfl) (grown_drew _) ?_ ?_
 ·
  refine yll_cons rfl (fun w105 hi106 => ?_) ?_
  ·
   have hb107 := low0 hb104 hi106
   refine wpo_fieldAddr (o' := 0) fo_25_0 rfl rfl rfl ?_
   exact wpo_nil ⟨rfl, hi106⟩
  refine yll_cons rfl (fun w108 hi109 => ?_) ?_
  ·
   have hb110 := low0 hb104 hi109
   have k111 := (hN103.blk.grown0 hi109)
   refine wpo_load1 (v := .int .i64 l.s) ot_3 rfl (k111.cell rfl) rfl ?_
   exact wpo_nil ⟨rfl, hi109⟩
  refine yll_cons rfl (fun w112 hi113 => ?_) ?_
  ·
   have hb114 := low0 hb104 hi113
   refine wpo_conv (P := Try.prog) (k' := .u64) rfl (by kernel_rfl) (by kernel_rfl) (conv_u64 (by omega) (by omega)) rfl ?_
   exact wpo_nil ⟨rfl, hi113⟩
  refine yll_cons rfl (fun w115 hi116 => ?_) ?_
  ·
   have hb117 := low0 hb104 hi116
   refine wpo_fieldAddr (o' := 1) fo_25_1 rfl rfl rfl ?_
   exact wpo_nil ⟨rfl, hi116⟩
  refine yll_cons rfl (fun w118 hi119 => ?_) ?_
  ·
   have hb120 := low0 hb104 hi119
   have k121 := (hN103.blk.grown0 hi119)
   refine wpo_load1 (v := .int .i64 l.v) ot_3 rfl (k121.cell rfl) rfl ?_
   exact wpo_nil ⟨rfl, hi119⟩
  refine yll_cons rfl (fun w122 hi123 => ?_) ?_
  ·
   have hb124 := low0 hb104 hi123
   refine wpo_conv (P := Try.prog) (k' := .u64) rfl (by kernel_rfl) (by kernel_rfl) (conv_u64 (by omega) (by omega)) rfl ?_
   exact wpo_nil ⟨rfl, hi123⟩
  refine yll_cons rfl (fun w125 hi126 => ?_) ?_
  ·
   have hb127 := low0 hb104 hi126
   refine wpo_assign (v := .int .u64 l.s) rfl rfl ?_
   exact wpo_nil ⟨rfl, hi126⟩
  exact yll_nil
 ·
  intro w128 hi129
  have hb130 := low0 hb104 hi129
  refine wpo_assign (v := .int .u64 l.v) rfl rfl ?_
  refine wpo_nil ?_
  refine thn_n ?_
  refine wpf_ret ?_
  refine ⟨.tuple #[.int .u64 l.s, .int .u64 l.v], res2 rfl rfl rfl, ?_, hb130⟩
  rfl
theorem within_c [Comp] (a b : Int) (w : World) : CallsR Try.prog 49 #[.int .u64 a, .int .u64 b] w (fun v w' => v = .bool (decide (bits .andNot .u64 a b = 0)) ∧ w.grownBy w' none) := by
 refine calls_of_wpf (n := 9) Try.func49 rfl Try.ntmps49 rfl ?_
 have hb0 := World.grownBy.refl w none
 refine wpf_seq_region ?_
 refine wpo_assign (v := .bool false) rfl rfl ?_
 refine wpo_nil ?_
 refine wpf_seq_region ?_
 refine wpo_move (v := .int .u64 a) rfl rfl ?_
 refine wpo_move (v := .int .u64 b) rfl rfl ?_
 refine wpo_bin (u := .int .u64 a) (u' := .int .u64 b) (v := .int .u64 (bits .andNot .u64 a b)) rfl rfl rfl rfl (fun _ => by rw [binOp_andNot, intBits_andNot]; rfl) (fun _ _ => eqGuard_at_int ..) rfl ?_
 refine wpo_eql (q := decide (bits .andNot .u64 a b = 0)) rfl rfl rfl rfl ?_
 refine wpo_assign (v := .bool (decide (bits .andNot .u64 a b = 0))) rfl rfl ?_
 refine wpo_nil ?_
 refine wpf_ret ?_
 refine ⟨.bool (decide (bits .andNot .u64 a b = 0)), res1 rfl rfl, ?_, hb0⟩
 rfl
theorem LabelFlow_c [Comp] (a b : Lab) (w : World) : CallsR Try.prog 18 #[.agg #[.int .i64 a.s, .int .i64 a.v], .agg #[.int .i64 b.s, .int .i64 b.v]] w (fun v w' => v = .bool (labelFlow a b) ∧ w.grownBy w' none) := by
 refine calls_of_wpf (n := 35) Try.func18 rfl Try.ntmps18 rfl ?_
 have hb0 := World.grownBy.refl w none
 refine wpf_seq_region ?_
 refine wpo_box (v := .agg #[.int .i64 a.s, .int .i64 a.v]) (cs := #[.int .i64 a.s, .int .i64 a.v]) rfl rfl rfl ?_
 intro B101 w102 hN103
 have hlB101 := hN_ge hN103 hb0
 have hb104 := low0 hb0 hN103.grw
 refine wpo_box (v := .agg #[.int .i64 b.s, .int .i64 b.v]) (cs := #[.int .i64 b.s, .int .i64 b.v]) rfl rfl rfl ?_
 intro B105 w106 hN107
 have hlB105 := hN_ge hN107 hb104
 have lt_B101_B105 := hN_gtl hN107 (hN103.blk).lt
 have hb108 := low0 hb104 hN107.grw
 refine wpo_assign (v := .bool false) rfl rfl ?_
 refine wpo_nil ?_
 refine wpf_seq ?_
 refine wpf_seq_region_mid (fun f' w' => (f' 2 = .pointer (some ⟨B101, 0, none⟩) ∧ f' 3 = .pointer (some ⟨B105, 0, none⟩) ∧ f' 4 = .bool false ∧ f' 16 = .bool ((!labelOk a) || (!labelOk b))) ∧ w106.grownBy w' none) ?_ ?_
 ·
  have k121 := (hN103.blk.grown0 hN107.grw)
  refine wpo_loadn (vs := [.int .i64 a.s, .int .i64 a.v]) rt_25 rfl rfl (k121.rangeL 0 2 rfl) rfl ?_
  refine wpo_call (vs := [.agg #[.int .i64 a.s, .int .i64 a.v]]) gf_38 (args_cons rfl args_nil) rfl (LabelOk_c a _) ?_
  rintro _ w122 ⟨rfl, hg123⟩
  have hb124 := low0 hb108 hg123
  refine wpo_not (b' := !labelOk a) rfl rfl rfl ?_
  refine wpo_move (v := .bool (!labelOk a)) rfl rfl ?_
  rcases bcases (!labelOk a) with h125 | h125
  ·
   have h126 := nt_t h125
   iterate 3 refine wpo_pass rfl rfl rfl h125 rfl ?_
   refine wpo_pickt (v := .bool true) rfl h125 rfl rfl ?_
   exact wpo_nil ⟨⟨rfl, rfl, rfl, (congrArg Value.bool (by first | (simp only [h125, h126, b0, b1, b2, b3, b4, b5, b6, b7, b8, b9]; done) | simp [h125, h126]))⟩, hg123⟩
  ·
   have h127 := nt_f h125
   refine wpo_run rfl rfl rfl h125 ?_
   have k128 := (hN107.blk.grown0 hg123)
   refine wpo_loadn (vs := [.int .i64 b.s, .int .i64 b.v]) rt_25 rfl rfl (k128.rangeL 0 2 rfl) rfl ?_
   refine wpo_run rfl rfl rfl h125 ?_
   refine wpo_call (vs := [.agg #[.int .i64 b.s, .int .i64 b.v]]) gf_38 (args_cons rfl args_nil) rfl (LabelOk_c b _) ?_
   rintro _ w129 ⟨rfl, hg130⟩
   have hb131 := low0 hb124 hg130
   refine wpo_run rfl rfl rfl h125 ?_
   refine wpo_not (b' := !labelOk b) rfl rfl rfl ?_
   refine wpo_pickf (v := .bool (!labelOk b)) rfl h125 rfl rfl ?_
   exact wpo_nil ⟨⟨rfl, rfl, rfl, (congrArg Value.bool (by first | (simp only [h125, h127, b0, b1, b2, b3, b4, b5, b6, b7, b8, b9]; done) | simp [h125, h127]))⟩, (grown_trans hg123 hg130)⟩
 ·
  rintro f132 w133 ⟨⟨e134, e135, e136, e137⟩, hg138⟩
  have hb139 := low0 hb108 hg138
  refine wpf_cond e137 (fun h140 => ?_) (fun h140 => ?_)
  ·
   refine wpf_seq_region ?_
   refine wpo_assign (v := .bool false) rfl rfl ?_
   refine wpo_nil ?_
   refine wpf_ret ?_
   refine thn_r ?_
   refine ⟨.bool false, res1 rfl rfl, ?_, hb139⟩
   exact congrArg Value.bool (labelFlow_no h140).symm
  ·
   have h141 := or_l h140
   have h142 := nt_f h141
   have h143 := or_r h140
   have h144 := nt_f h143
   refine wpf_skip ?_
   refine thn_n ?_
   refine wpf_seq_region ?_
   have k145 := ((hN103.blk.grown0 hN107.grw).grown0 hg138)
   refine wpo_loadn (vs := [.int .i64 a.s, .int .i64 a.v]) rt_25 e134 rfl (k145.rangeL 0 2 rfl) rfl ?_
   refine wpo_call (vs := [.agg #[.int .i64 a.s, .int .i64 a.v]]) gf_48 (args_cons rfl args_nil) rfl (labelSets_c a h142 _) ?_
   rintro _ w146 ⟨rfl, hg147⟩
   have hb148 := low0 hb139 hg147
   refine wpo_move (v := .tuple #[.int .u64 a.s, .int .u64 a.v]) rfl rfl ?_
   refine wpo_extract (v := .int .u64 a.s) rfl rfl rfl ?_
   refine wpo_extract (v := .int .u64 a.v) rfl rfl rfl ?_
   refine wpo_assign (v := .int .u64 a.s) rfl rfl ?_
   refine wpo_assign (v := .int .u64 a.v) rfl rfl ?_
   refine wpo_nil ?_
   refine wpf_seq_region ?_
   have k149 := ((hN107.blk.grown0 hg138).grown0 hg147)
   refine wpo_loadn (vs := [.int .i64 b.s, .int .i64 b.v]) rt_25 e135 rfl (k149.rangeL 0 2 rfl) rfl ?_
   refine wpo_call (vs := [.agg #[.int .i64 b.s, .int .i64 b.v]]) gf_48 (args_cons rfl args_nil) rfl (labelSets_c b h144 _) ?_
   rintro _ w150 ⟨rfl, hg151⟩
   have hb152 := low0 hb148 hg151
   refine wpo_move (v := .tuple #[.int .u64 b.s, .int .u64 b.v]) rfl rfl ?_
   refine wpo_extract (v := .int .u64 b.s) rfl rfl rfl ?_
   refine wpo_extract (v := .int .u64 b.v) rfl rfl rfl ?_
   refine wpo_assign (v := .int .u64 b.s) rfl rfl ?_
   refine wpo_assign (v := .int .u64 b.v) rfl rfl ?_
   refine wpo_nil ?_
   refine wpf_seq_region_mid (fun f' w' => (f' 4 = .bool ((decide (bits .andNot .u64 a.s b.s = 0)) && (decide (bits .andNot .u64 b.v a.v = 0)))) ∧ w150.grownBy w' none) ?_ ?_
   ·
    refine wpo_move (v := .int .u64 a.s) rfl rfl ?_
    refine wpo_move (v := .int .u64 b.s) rfl rfl ?_
    refine wpo_call (vs := [.int .u64 a.s, .int .u64 b.s]) gf_49 (args_cons rfl (args_cons rfl args_nil)) rfl (within_c a.s b.s _) ?_
    rintro _ w162 ⟨rfl, hg163⟩
    have hb164 := low0 hb152 hg163
    refine wpo_move (v := .bool (decide (bits .andNot .u64 a.s b.s = 0))) rfl rfl ?_
    rcases bcases (decide (bits .andNot .u64 a.s b.s = 0)) with h165 | h165
    ·
     have h166 := of_decide_eq_true h165
     refine wpo_run rfl rfl rfl h165 ?_
     refine wpo_move (v := .int .u64 b.v) rfl rfl ?_
     refine wpo_run rfl rfl rfl h165 ?_
     refine wpo_move (v := .int .u64 a.v) rfl rfl ?_
     refine wpo_run rfl rfl rfl h165 ?_
     refine wpo_call (vs := [.int .u64 b.v, .int .u64 a.v]) gf_49 (args_cons rfl (args_cons rfl args_nil)) rfl (within_c b.v a.v _) ?_
     rintro _ w167 ⟨rfl, hg168⟩
     have hb169 := low0 hb164 hg168
     refine wpo_pickt (v := .bool (decide (bits .andNot .u64 b.v a.v = 0))) rfl h165 rfl rfl ?_
     refine wpo_assign (v := .bool (decide (bits .andNot .u64 b.v a.v = 0))) rfl rfl ?_
     exact wpo_nil ⟨(congrArg Value.bool (by first | (simp only [h140, h141, h142, h143, h144, h165, b0, b1, b2, b3, b4, b5, b6, b7, b8, b9]; done) | simp [h140, h141, h142, h143, h144, h165])), (grown_trans hg163 hg168)⟩
    ·
     have h170 := of_decide_eq_false h165
     iterate 3 refine wpo_pass rfl rfl rfl h165 rfl ?_
     refine wpo_pickf (v := .bool false) rfl h165 rfl rfl ?_
     refine wpo_assign (v := .bool false) rfl rfl ?_
     exact wpo_nil ⟨(congrArg Value.bool (by first | (simp only [h140, h141, h142, h143, h144, h165, b0, b1, b2, b3, b4, b5, b6, b7, b8, b9]; done) | simp [h140, h141, h142, h143, h144, h165])), hg163⟩
   ·
    rintro f171 w172 ⟨e173, hg174⟩
    have hb175 := low0 hb152 hg174
    refine wpf_ret ?_
    refine ⟨.bool ((decide (bits .andNot .u64 a.s b.s = 0)) && (decide (bits .andNot .u64 b.v a.v = 0))), res1 rfl e173, ?_, hb175⟩
    exact congrArg Value.bool (labelFlow_yes h142 h144)
theorem RightOk_c [Comp] (r : Rt) (w : World) : CallsR Try.prog 97 #[.agg #[.int .i64 r.th, .int .i64 r.ve, .bool r.rd, .bool r.wr, .bool r.wk]] w (fun v w' => v = .bool (rightOk r) ∧ w.grownBy w' none) := by
 refine calls_of_wpf (n := 33) Try.func97 rfl Try.ntmps97 rfl ?_
 have hb0 := World.grownBy.refl w none
 refine wpf_seq_region ?_
 refine wpo_box (v := .agg #[.int .i64 r.th, .int .i64 r.ve, .bool r.rd, .bool r.wr, .bool r.wk]) (cs := #[.int .i64 r.th, .int .i64 r.ve, .bool r.rd, .bool r.wr, .bool r.wk]) rfl rfl rfl ?_
 intro B101 w102 hN103
 have hlB101 := hN_ge hN103 hb0
 have hb104 := low0 hb0 hN103.grw
 refine wpo_assign (v := .bool false) rfl rfl ?_
 refine wpo_nil ?_
 refine wpf_seq ?_
 refine wpf_seq_region ?_
 refine wpo_loadn (vs := [.int .i64 r.th, .int .i64 r.ve, .bool r.rd, .bool r.wr, .bool r.wk]) rt_74 rfl rfl (hN103.blk.rangeL 0 5 rfl) rfl ?_
 refine wpo_build (ps := []) (v := .agg #[.int .i64 0, .int .i64 0, .bool false, .bool false, .bool false]) parts_nil (fun _ => by kernel_rfl) rfl ?_
 refine wpo_eqs (q := decide (r = Rt.zero)) rfl rfl rfl rfl (fun _ => eqG_74 _ _ r Rt.zero _) (fun _ => eqV_74 r Rt.zero _) rfl rfl ?_
 refine wpo_nil ?_
 refine wpf_cond rfl (fun h105 => ?_) (fun h105 => ?_)
 ·
  have h106 := of_decide_eq_true h105
  refine wpf_seq_region ?_
  refine wpo_assign (v := .bool true) rfl rfl ?_
  refine wpo_nil ?_
  refine wpf_ret ?_
  refine thn_r ?_
  refine ⟨.bool true, res1 rfl rfl, ?_, hb104⟩
  simp [rightOk, inR, Bool.and_assoc, h105]
 ·
  have h107 := of_decide_eq_false h105
  refine wpf_skip ?_
  refine thn_n ?_
  refine wpf_seq_region_mid (fun f' w' => (f' 2 = .bool (((((decide (1 ≤ r.th)) && (decide (r.th ≤ 8))) && (decide (0 ≤ r.ve))) && (decide (r.ve ≤ 5))) && (!(r.wk && r.wr)))) ∧ w102 = w') ?_ ?_
  ·
   refine wpo_fieldAddr (o' := 0) fo_74_0 rfl rfl rfl ?_
   refine wpo_load1 (v := .int .i64 r.th) ot_3 rfl (hN103.blk.cell rfl) rfl ?_
   refine wpo_geq (q := decide (1 ≤ r.th)) rfl rfl rfl rfl ?_
   refine wpo_move (v := .bool (decide (1 ≤ r.th))) rfl rfl ?_
   rcases bcases (decide (1 ≤ r.th)) with h108 | h108
   ·
    have h109 := of_decide_eq_true h108
    refine wpo_run rfl rfl rfl h108 ?_
    refine wpo_fieldAddr (o' := 0) fo_74_0 rfl rfl rfl ?_
    refine wpo_run rfl rfl rfl h108 ?_
    refine wpo_load1 (v := .int .i64 r.th) ot_3 rfl (hN103.blk.cell rfl) rfl ?_
    refine wpo_run rfl rfl rfl h108 ?_
    refine wpo_leq (q := decide (r.th ≤ 8)) rfl rfl rfl rfl ?_
    refine wpo_pickt (v := .bool (decide (r.th ≤ 8))) rfl h108 rfl rfl ?_
    refine wpo_move (v := .bool (decide (r.th ≤ 8))) rfl rfl ?_
    rcases bcases (decide (r.th ≤ 8)) with h110 | h110
    ·
     have h111 := of_decide_eq_true h110
     refine wpo_run rfl rfl rfl h110 ?_
     refine wpo_fieldAddr (o' := 1) fo_74_1 rfl rfl rfl ?_
     refine wpo_run rfl rfl rfl h110 ?_
     refine wpo_load1 (v := .int .i64 r.ve) ot_3 rfl (hN103.blk.cell rfl) rfl ?_
     refine wpo_run rfl rfl rfl h110 ?_
     refine wpo_geq (q := decide (0 ≤ r.ve)) rfl rfl rfl rfl ?_
     refine wpo_pickt (v := .bool (decide (0 ≤ r.ve))) rfl h110 rfl rfl ?_
     refine wpo_move (v := .bool (decide (0 ≤ r.ve))) rfl rfl ?_
     rcases bcases (decide (0 ≤ r.ve)) with h112 | h112
     ·
      have h113 := of_decide_eq_true h112
      refine wpo_run rfl rfl rfl h112 ?_
      refine wpo_fieldAddr (o' := 1) fo_74_1 rfl rfl rfl ?_
      refine wpo_run rfl rfl rfl h112 ?_
      refine wpo_load1 (v := .int .i64 r.ve) ot_3 rfl (hN103.blk.cell rfl) rfl ?_
      refine wpo_run rfl rfl rfl h112 ?_
      refine wpo_leq (q := decide (r.ve ≤ 5)) rfl rfl rfl rfl ?_
      refine wpo_pickt (v := .bool (decide (r.ve ≤ 5))) rfl h112 rfl rfl ?_
      refine wpo_move (v := .bool (decide (r.ve ≤ 5))) rfl rfl ?_
      rcases bcases (decide (r.ve ≤ 5)) with h114 | h114
      ·
       have h115 := of_decide_eq_true h114
       refine wpo_run rfl rfl rfl h114 ?_
       refine wpo_fieldAddr (o' := 4) fo_74_4 rfl rfl rfl ?_
       refine wpo_run rfl rfl rfl h114 ?_
       refine wpo_load1 (v := .bool r.wk) ot_4 rfl (hN103.blk.cell rfl) rfl ?_
       refine wpo_run rfl rfl rfl h114 ?_
       refine wpo_move (v := .bool r.wk) rfl rfl ?_
       rcases bcases (r.wk) with h116 | h116
       ·
        refine wpo_run rfl rfl rfl h116 ?_
        refine wpo_fieldAddr (o' := 3) fo_74_3 rfl rfl rfl ?_
        refine wpo_run rfl rfl rfl h116 ?_
        refine wpo_load1 (v := .bool r.wr) ot_4 rfl (hN103.blk.cell rfl) rfl ?_
        refine wpo_run rfl rfl rfl h114 ?_
        refine wpo_pickt (v := .bool r.wr) rfl h116 rfl rfl ?_
        refine wpo_run rfl rfl rfl h114 ?_
        refine wpo_not (b' := !r.wr) rfl rfl rfl ?_
        refine wpo_pickt (v := .bool (!r.wr)) rfl h114 rfl rfl ?_
        refine wpo_assign (v := .bool (!r.wr)) rfl rfl ?_
        exact wpo_nil ⟨(congrArg Value.bool (by first | (simp only [h105, h108, h110, h112, h114, h116, b0, b1, b2, b3, b4, b5, b6, b7, b8, b9]; done) | simp [h105, h108, h110, h112, h114, h116])), rfl⟩
       ·
        refine wpo_pass rfl rfl rfl h116 rfl ?_
        refine wpo_pass rfl rfl rfl h116 rfl ?_
        refine wpo_run rfl rfl rfl h114 ?_
        refine wpo_pickf (v := .bool false) rfl h116 rfl rfl ?_
        refine wpo_run rfl rfl rfl h114 ?_
        refine wpo_not (b' := true) rfl rfl rfl ?_
        refine wpo_pickt (v := .bool true) rfl h114 rfl rfl ?_
        refine wpo_assign (v := .bool true) rfl rfl ?_
        exact wpo_nil ⟨(congrArg Value.bool (by first | (simp only [h105, h108, h110, h112, h114, h116, b0, b1, b2, b3, b4, b5, b6, b7, b8, b9]; done) | simp [h105, h108, h110, h112, h114, h116])), rfl⟩
      ·
       have h117 := of_decide_eq_false h114
       iterate 3 refine wpo_pass rfl rfl rfl h114 rfl ?_
       refine wpo_passu rfl rfl rfl rfl ?_
       refine wpo_passu rfl rfl rfl rfl ?_
       refine wpo_pass rfl rfl rfl h114 rfl ?_
       refine wpo_pass rfl rfl rfl h114 rfl ?_
       refine wpo_pickf (v := .bool false) rfl h114 rfl rfl ?_
       refine wpo_assign (v := .bool false) rfl rfl ?_
       exact wpo_nil ⟨(congrArg Value.bool (by first | (simp only [h105, h108, h110, h112, h114, b0, b1, b2, b3, b4, b5, b6, b7, b8, b9]; done) | simp [h105, h108, h110, h112, h114])), rfl⟩
     ·
      have h118 := of_decide_eq_false h112
      iterate 3 refine wpo_pass rfl rfl rfl h112 rfl ?_
      refine wpo_pickf (v := .bool false) rfl h112 rfl rfl ?_
      refine wpo_move (v := .bool false) rfl rfl ?_
      iterate 3 refine wpo_pass rfl rfl rfl rfl rfl ?_
      refine wpo_passu rfl rfl rfl rfl ?_
      refine wpo_passu rfl rfl rfl rfl ?_
      refine wpo_pass rfl rfl rfl rfl rfl ?_
      refine wpo_pass rfl rfl rfl rfl rfl ?_
      refine wpo_pickf (v := .bool false) rfl rfl rfl rfl ?_
      refine wpo_assign (v := .bool false) rfl rfl ?_
      exact wpo_nil ⟨(congrArg Value.bool (by first | (simp only [h105, h108, h110, h112, b0, b1, b2, b3, b4, b5, b6, b7, b8, b9]; done) | simp [h105, h108, h110, h112])), rfl⟩
    ·
     have h119 := of_decide_eq_false h110
     iterate 3 refine wpo_pass rfl rfl rfl h110 rfl ?_
     refine wpo_pickf (v := .bool false) rfl h110 rfl rfl ?_
     refine wpo_move (v := .bool false) rfl rfl ?_
     iterate 3 refine wpo_pass rfl rfl rfl rfl rfl ?_
     refine wpo_pickf (v := .bool false) rfl rfl rfl rfl ?_
     refine wpo_move (v := .bool false) rfl rfl ?_
     iterate 3 refine wpo_pass rfl rfl rfl rfl rfl ?_
     refine wpo_passu rfl rfl rfl rfl ?_
     refine wpo_passu rfl rfl rfl rfl ?_
     refine wpo_pass rfl rfl rfl rfl rfl ?_
     refine wpo_pass rfl rfl rfl rfl rfl ?_
     refine wpo_pickf (v := .bool false) rfl rfl rfl rfl ?_
     refine wpo_assign (v := .bool false) rfl rfl ?_
     exact wpo_nil ⟨(congrArg Value.bool (by first | (simp only [h105, h108, h110, b0, b1, b2, b3, b4, b5, b6, b7, b8, b9]; done) | simp [h105, h108, h110])), rfl⟩
   ·
    have h120 := of_decide_eq_false h108
    iterate 3 refine wpo_pass rfl rfl rfl h108 rfl ?_
    refine wpo_pickf (v := .bool false) rfl h108 rfl rfl ?_
    refine wpo_move (v := .bool false) rfl rfl ?_
    iterate 3 refine wpo_pass rfl rfl rfl rfl rfl ?_
    refine wpo_pickf (v := .bool false) rfl rfl rfl rfl ?_
    refine wpo_move (v := .bool false) rfl rfl ?_
    iterate 3 refine wpo_pass rfl rfl rfl rfl rfl ?_
    refine wpo_pickf (v := .bool false) rfl rfl rfl rfl ?_
    refine wpo_move (v := .bool false) rfl rfl ?_
    iterate 3 refine wpo_pass rfl rfl rfl rfl rfl ?_
    refine wpo_passu rfl rfl rfl rfl ?_
    refine wpo_passu rfl rfl rfl rfl ?_
    refine wpo_pass rfl rfl rfl rfl rfl ?_
    refine wpo_pass rfl rfl rfl rfl rfl ?_
    refine wpo_pickf (v := .bool false) rfl rfl rfl rfl ?_
    refine wpo_assign (v := .bool false) rfl rfl ?_
    exact wpo_nil ⟨(congrArg Value.bool (by first | (simp only [h105, h108, b0, b1, b2, b3, b4, b5, b6, b7, b8, b9]; done) | simp [h105, h108])), rfl⟩
  ·
   rintro f121 w122 ⟨e123, rfl⟩
   refine wpf_ret ?_
   refine ⟨.bool (((((decide (1 ≤ r.th)) && (decide (r.th ≤ 8))) && (decide (0 ≤ r.ve))) && (decide (r.ve ≤ 5))) && (!(r.wk && r.wr))), res1 rfl e123, ?_, hb104⟩
   simp [rightOk, inR, Bool.and_assoc, h105]
end Go.Dw.J
end
section
namespace Go.Dw.J
open Go.RowKit Go.Dw Go.Proofs
set_option linter.unusedSectionVars false
set_option maxRecDepth 100000
set_option maxHeartbeats 4000000
set_option linter.unusedSimpArgs false
set_option linter.unusedVariables false
theorem gf_118 : goFn Try.prog 118 = true := by kernel_rfl
theorem gf_16 : goFn Try.prog 16 = true := by kernel_rfl
theorem gf_46 : goFn Try.prog 46 = true := by kernel_rfl
theorem l6In_c [Comp] (n lo hi : Int) (w : World) : CallsR Try.prog 46 #[.int .i64 n, .int .i64 lo, .int .i64 hi] w (fun v w' => v = .bool (inR n lo hi) ∧ w.grownBy w' none) := by
 refine calls_of_wpf (n := 15) Try.func46 rfl Try.ntmps46 rfl ?_
 have hb0 := World.grownBy.refl w none
 refine wpf_seq_region ?_
 refine wpo_assign (v := .bool false) rfl rfl ?_
 refine wpo_nil ?_
 refine wpf_seq_region_mid (fun f' w' => (f' 6 = .bool ((decide (lo ≤ n)) && (decide (n ≤ hi)))) ∧ w = w') ?_ ?_
 ·
  refine wpo_move (v := .int .i64 n) rfl rfl ?_
  refine wpo_move (v := .int .i64 lo) rfl rfl ?_
  refine wpo_geq (q := decide (lo ≤ n)) rfl rfl rfl rfl ?_
  refine wpo_move (v := .bool (decide (lo ≤ n))) rfl rfl ?_
  rcases bcases (decide (lo ≤ n)) with h101 | h101
  ·
   have h102 := of_decide_eq_true h101
   refine wpo_run rfl rfl rfl h101 ?_
   refine wpo_move (v := .int .i64 n) rfl rfl ?_
   refine wpo_run rfl rfl rfl h101 ?_
   refine wpo_move (v := .int .i64 hi) rfl rfl ?_
   refine wpo_run rfl rfl rfl h101 ?_
   refine wpo_leq (q := decide (n ≤ hi)) rfl rfl rfl rfl ?_
   refine wpo_pickt (v := .bool (decide (n ≤ hi))) rfl h101 rfl rfl ?_
   refine wpo_assign (v := .bool (decide (n ≤ hi))) rfl rfl ?_
   exact wpo_nil ⟨(congrArg Value.bool (by first | (simp only [h101, b0, b1, b2, b3, b4, b5, b6, b7, b8, b9]; done) | simp [h101])), rfl⟩
  ·
   have h103 := of_decide_eq_false h101
   iterate 3 refine wpo_pass rfl rfl rfl h101 rfl ?_
   refine wpo_pickf (v := .bool false) rfl h101 rfl rfl ?_
   refine wpo_assign (v := .bool false) rfl rfl ?_
   exact wpo_nil ⟨(congrArg Value.bool (by first | (simp only [h101, b0, b1, b2, b3, b4, b5, b6, b7, b8, b9]; done) | simp [h101])), rfl⟩
 ·
  rintro f104 w105 ⟨e106, rfl⟩
  refine wpf_ret ?_
  refine ⟨.bool ((decide (lo ≤ n)) && (decide (n ≤ hi))), res1 rfl e106, ?_, hb0⟩
  rfl
theorem inRange_c [Comp] (n lo hi : Int) (w : World) : CallsR Try.prog 50 #[.int .i64 n, .int .i64 lo, .int .i64 hi] w (fun v w' => v = .bool (inR n lo hi) ∧ w.grownBy w' none) := by
 refine calls_of_wpf (n := 15) Try.func50 rfl Try.ntmps50 rfl ?_
 have hb0 := World.grownBy.refl w none
 refine wpf_seq_region ?_
 refine wpo_assign (v := .bool false) rfl rfl ?_
 refine wpo_nil ?_
 refine wpf_seq_region_mid (fun f' w' => (f' 6 = .bool ((decide (lo ≤ n)) && (decide (n ≤ hi)))) ∧ w = w') ?_ ?_
 ·
  refine wpo_move (v := .int .i64 lo) rfl rfl ?_
  refine wpo_move (v := .int .i64 n) rfl rfl ?_
  refine wpo_leq (q := decide (lo ≤ n)) rfl rfl rfl rfl ?_
  refine wpo_move (v := .bool (decide (lo ≤ n))) rfl rfl ?_
  rcases bcases (decide (lo ≤ n)) with h101 | h101
  ·
   have h102 := of_decide_eq_true h101
   refine wpo_run rfl rfl rfl h101 ?_
   refine wpo_move (v := .int .i64 n) rfl rfl ?_
   refine wpo_run rfl rfl rfl h101 ?_
   refine wpo_move (v := .int .i64 hi) rfl rfl ?_
   refine wpo_run rfl rfl rfl h101 ?_
   refine wpo_leq (q := decide (n ≤ hi)) rfl rfl rfl rfl ?_
   refine wpo_pickt (v := .bool (decide (n ≤ hi))) rfl h101 rfl rfl ?_
   refine wpo_assign (v := .bool (decide (n ≤ hi))) rfl rfl ?_
   exact wpo_nil ⟨(congrArg Value.bool (by first | (simp only [h101, b0, b1, b2, b3, b4, b5, b6, b7, b8, b9]; done) | simp [h101])), rfl⟩
  ·
   have h103 := of_decide_eq_false h101
   iterate 3 refine wpo_pass rfl rfl rfl h101 rfl ?_
   refine wpo_pickf (v := .bool false) rfl h101 rfl rfl ?_
   refine wpo_assign (v := .bool false) rfl rfl ?_
   exact wpo_nil ⟨(congrArg Value.bool (by first | (simp only [h101, b0, b1, b2, b3, b4, b5, b6, b7, b8, b9]; done) | simp [h101])), rfl⟩
 ·
  rintro f104 w105 ⟨e106, rfl⟩
  refine wpf_ret ?_
  refine ⟨.bool ((decide (lo ≤ n)) && (decide (n ≤ hi))), res1 rfl e106, ?_, hb0⟩
  rfl
theorem sLabelOk_c [Comp] (l : Lab) (w : World) : CallsR Try.prog 16 #[.agg #[.int .i64 l.s, .int .i64 l.v]] w (fun v w' => v = .bool (labelOk l) ∧ w.grownBy w' none) := by
 refine calls_of_wpf (n := 11) Try.func16 rfl Try.ntmps16 rfl ?_
 have hb0 := World.grownBy.refl w none
 refine wpf_seq_region ?_
 refine wpo_box (v := .agg #[.int .i64 l.s, .int .i64 l.v]) (cs := #[.int .i64 l.s, .int .i64 l.v]) rfl rfl rfl ?_
 intro B101 w102 hN103
 have hlB101 := hN_ge hN103 hb0
 have hb104 := low0 hb0 hN103.grw
 refine wpo_assign (v := .bool false) rfl rfl ?_
 refine wpo_nil ?_
 refine wpf_seq_region_mid (fun f' w' => (f' 2 = .bool (inR l.s 0 3 && inR l.v 0 3)) ∧ w102.grownBy w' none) ?_ ?_
 ·
  refine wpo_fieldAddr (o' := 0) fo_25_0 rfl rfl rfl ?_
  refine wpo_load1 (v := .int .i64 l.s) ot_3 rfl (hN103.blk.cell rfl) rfl ?_
  refine wpo_call (vs := [.int .i64 l.s, .int .i64 0, .int .i64 3]) gf_46 (args_cons rfl (args_cons rfl (args_cons rfl args_nil))) rfl (l6In_c l.s 0 3 _) ?_
  rintro _ w115 ⟨rfl, hg116⟩
  have hb117 := low0 hb104 hg116
  refine wpo_move (v := .bool (inR l.s 0 3)) rfl rfl ?_
  rcases bcases (inR l.s 0 3) with h118 | h118
  ·
   refine wpo_run rfl rfl rfl h118 ?_
   refine wpo_fieldAddr (o' := 1) fo_25_1 rfl rfl rfl ?_
   refine wpo_run rfl rfl rfl h118 ?_
   have k119 := (hN103.blk.grown0 hg116)
   refine wpo_load1 (v := .int .i64 l.v) ot_3 rfl (k119.cell rfl) rfl ?_
   refine wpo_run rfl rfl rfl h118 ?_
   refine wpo_call (vs := [.int .i64 l.v, .int .i64 0, .int .i64 3]) gf_46 (args_cons rfl (args_cons rfl (args_cons rfl args_nil))) rfl (l6In_c l.v 0 3 _) ?_
   rintro _ w120 ⟨rfl, hg121⟩
   have hb122 := low0 hb117 hg121
   refine wpo_pickt (v := .bool (inR l.v 0 3)) rfl h118 rfl rfl ?_
   refine wpo_assign (v := .bool (inR l.v 0 3)) rfl rfl ?_
   exact wpo_nil ⟨(congrArg Value.bool (by first | (simp only [h118, b0, b1, b2, b3, b4, b5, b6, b7, b8, b9]; done) | simp [h118])), (grown_trans hg116 hg121)⟩
  ·
   iterate 3 refine wpo_pass rfl rfl rfl h118 rfl ?_
   refine wpo_pickf (v := .bool false) rfl h118 rfl rfl ?_
   refine wpo_assign (v := .bool false) rfl rfl ?_
   exact wpo_nil ⟨(congrArg Value.bool (by first | (simp only [h118, b0, b1, b2, b3, b4, b5, b6, b7, b8, b9]; done) | simp [h118])), hg116⟩
 ·
  rintro f123 w124 ⟨e125, hg126⟩
  have hb127 := low0 hb104 hg126
  refine wpf_ret ?_
  refine ⟨.bool (inR l.s 0 3 && inR l.v 0 3), res1 rfl e125, ?_, hb127⟩
  rfl
theorem l1In_c [Comp] (a b : Int) (ha : 0 ≤ a ∧ a ≤ 3) (hb : 0 ≤ b ∧ b ≤ 3) (w : World) : CallsR Try.prog 118 #[.int .i64 a, .int .i64 b] w (fun v w' => v = .bool (l1In a b) ∧ w.grownBy w' none) := by
 refine calls_of_wpf (n := 17) Try.func118 rfl Try.ntmps118 rfl ?_
 have hb0 := World.grownBy.refl w none
 refine wpf_seq_region ?_
 refine wpo_assign (v := .bool false) rfl rfl ?_
 refine wpo_nil ?_
 refine wpf_seq_region_mid (fun f' w' => (f' 4 = .bool ((decide (a % 2 ≤ b % 2)) && (decide (a / 2 ≤ b / 2)))) ∧ w = w') ?_ ?_
 ·
  refine wpo_move (v := .int .i64 a) rfl rfl ?_
  refine wpo_rem (c := a % 2) rfl rfl (by omega) (by omega) (by omega) rfl rfl ?_
  refine wpo_move (v := .int .i64 b) rfl rfl ?_
  refine wpo_rem (c := b % 2) rfl rfl (by omega) (by omega) (by omega) rfl rfl ?_
  refine wpo_leq (q := decide (a % 2 ≤ b % 2)) rfl rfl rfl rfl ?_
  refine wpo_move (v := .bool (decide (a % 2 ≤ b % 2))) rfl rfl ?_
  rcases bcases (decide (a % 2 ≤ b % 2)) with h101 | h101
  ·
   have h102 := of_decide_eq_true h101
   refine wpo_run rfl rfl rfl h101 ?_
   refine wpo_move (v := .int .i64 a) rfl rfl ?_
   refine wpo_run rfl rfl rfl h101 ?_
   refine wpo_quo (c := a / 2) rfl rfl (by omega) (by omega) (by omega) rfl rfl ?_
   refine wpo_run rfl rfl rfl h101 ?_
   refine wpo_move (v := .int .i64 b) rfl rfl ?_
   refine wpo_run rfl rfl rfl h101 ?_
   refine wpo_quo (c := b / 2) rfl rfl (by omega) (by omega) (by omega) rfl rfl ?_
   refine wpo_run rfl rfl rfl h101 ?_
   refine wpo_leq (q := decide (a / 2 ≤ b / 2)) rfl rfl rfl rfl ?_
   refine wpo_pickt (v := .bool (decide (a / 2 ≤ b / 2))) rfl h101 rfl rfl ?_
   refine wpo_assign (v := .bool (decide (a / 2 ≤ b / 2))) rfl rfl ?_
   exact wpo_nil ⟨(congrArg Value.bool (by first | (simp only [h101, b0, b1, b2, b3, b4, b5, b6, b7, b8, b9]; done) | simp [h101])), rfl⟩
  ·
   have h103 := of_decide_eq_false h101
   iterate 5 refine wpo_pass rfl rfl rfl h101 rfl ?_
   refine wpo_pickf (v := .bool false) rfl h101 rfl rfl ?_
   refine wpo_assign (v := .bool false) rfl rfl ?_
   exact wpo_nil ⟨(congrArg Value.bool (by first | (simp only [h101, b0, b1, b2, b3, b4, b5, b6, b7, b8, b9]; done) | simp [h101])), rfl⟩
 ·
  rintro f104 w105 ⟨e106, rfl⟩
  refine wpf_ret ?_
  refine ⟨.bool ((decide (a % 2 ≤ b % 2)) && (decide (a / 2 ≤ b / 2))), res1 rfl e106, ?_, hb0⟩
  rfl
theorem l1Flow_c [Comp] (a b : Lab) (hla : labelOk a = true) (hlb : labelOk b = true) (w : World) : CallsR Try.prog 92 #[.agg #[.int .i64 a.s, .int .i64 a.v], .agg #[.int .i64 b.s, .int .i64 b.v]] w (fun v w' => v = .bool (flow a b) ∧ w.grownBy w' none) := by
 refine calls_of_wpf (n := 17) Try.func92 rfl Try.ntmps92 rfl ?_
 have hb0 := World.grownBy.refl w none
 obtain ⟨⟨ha1, ha2⟩, ha3, ha4⟩ := (labelOk_iff a).1 hla
 obtain ⟨⟨hc1, hc2⟩, hc3, hc4⟩ := (labelOk_iff b).1 hlb
 refine wpf_seq_region ?_
 refine wpo_box (v := .agg #[.int .i64 a.s, .int .i64 a.v]) (cs := #[.int .i64 a.s, .int .i64 a.v]) rfl rfl rfl ?_
 intro B101 w102 hN103
 have hlB101 := hN_ge hN103 hb0
 have hb104 := low0 hb0 hN103.grw
 refine wpo_box (v := .agg #[.int .i64 b.s, .int .i64 b.v]) (cs := #[.int .i64 b.s, .int .i64 b.v]) rfl rfl rfl ?_
 intro B105 w106 hN107
 have hlB105 := hN_ge hN107 hb104
 have lt_B101_B105 := hN_gtl hN107 (hN103.blk).lt
 have hb108 := low0 hb104 hN107.grw
 refine wpo_assign (v := .bool false) rfl rfl ?_
 refine wpo_nil ?_
 refine wpf_seq_region_mid (fun f' w' => (f' 4 = .bool (l1In a.s b.s && l1In b.v a.v)) ∧ w106.grownBy w' none) ?_ ?_
 ·
  refine wpo_fieldAddr (o' := 0) fo_25_0 rfl rfl rfl ?_
  have k122 := (hN103.blk.grown0 hN107.grw)
  refine wpo_load1 (v := .int .i64 a.s) ot_3 rfl (k122.cell rfl) rfl ?_
  refine wpo_fieldAddr (o' := 0) fo_25_0 rfl rfl rfl ?_
  refine wpo_load1 (v := .int .i64 b.s) ot_3 rfl (hN107.blk.cell rfl) rfl ?_
  refine wpo_call (vs := [.int .i64 a.s, .int .i64 b.s]) gf_118 (args_cons rfl (args_cons rfl args_nil)) rfl (l1In_c a.s b.s (by omega) (by omega) _) ?_
  rintro _ w123 ⟨rfl, hg124⟩
  have hb125 := low0 hb108 hg124
  refine wpo_move (v := .bool (l1In a.s b.s)) rfl rfl ?_
  rcases bcases (l1In a.s b.s) with h126 | h126
  ·
   refine wpo_run rfl rfl rfl h126 ?_
   refine wpo_fieldAddr (o' := 1) fo_25_1 rfl rfl rfl ?_
   refine wpo_run rfl rfl rfl h126 ?_
   have k127 := (hN107.blk.grown0 hg124)
   refine wpo_load1 (v := .int .i64 b.v) ot_3 rfl (k127.cell rfl) rfl ?_
   refine wpo_run rfl rfl rfl h126 ?_
   refine wpo_fieldAddr (o' := 1) fo_25_1 rfl rfl rfl ?_
   refine wpo_run rfl rfl rfl h126 ?_
   have k128 := (k122.grown0 hg124)
   refine wpo_load1 (v := .int .i64 a.v) ot_3 rfl (k128.cell rfl) rfl ?_
   refine wpo_run rfl rfl rfl h126 ?_
   refine wpo_call (vs := [.int .i64 b.v, .int .i64 a.v]) gf_118 (args_cons rfl (args_cons rfl args_nil)) rfl (l1In_c b.v a.v (by omega) (by omega) _) ?_
   rintro _ w129 ⟨rfl, hg130⟩
   have hb131 := low0 hb125 hg130
   refine wpo_pickt (v := .bool (l1In b.v a.v)) rfl h126 rfl rfl ?_
   refine wpo_assign (v := .bool (l1In b.v a.v)) rfl rfl ?_
   exact wpo_nil ⟨(congrArg Value.bool (by first | (simp only [h126, b0, b1, b2, b3, b4, b5, b6, b7, b8, b9]; done) | simp [h126])), (grown_trans hg124 hg130)⟩
  ·
   iterate 5 refine wpo_pass rfl rfl rfl h126 rfl ?_
   refine wpo_pickf (v := .bool false) rfl h126 rfl rfl ?_
   refine wpo_assign (v := .bool false) rfl rfl ?_
   exact wpo_nil ⟨(congrArg Value.bool (by first | (simp only [h126, b0, b1, b2, b3, b4, b5, b6, b7, b8, b9]; done) | simp [h126])), hg124⟩
 ·
  rintro f132 w133 ⟨e134, hg135⟩
  have hb136 := low0 hb108 hg135
  refine wpf_ret ?_
  refine ⟨.bool (l1In a.s b.s && l1In b.v a.v), res1 rfl e134, ?_, hb136⟩
  rfl
theorem sRightOk_c [Comp] (r : Rt) (w : World) : CallsR Try.prog 94 #[.agg #[.int .i64 r.th, .int .i64 r.ve, .bool r.rd, .bool r.wr, .bool r.wk]] w (fun v w' => v = .bool (rightOk r) ∧ w.grownBy w' none) := by
 refine calls_of_wpf (n := 26) Try.func94 rfl Try.ntmps94 rfl ?_
 have hb0 := World.grownBy.refl w none
 refine wpf_seq_region ?_
 refine wpo_box (v := .agg #[.int .i64 r.th, .int .i64 r.ve, .bool r.rd, .bool r.wr, .bool r.wk]) (cs := #[.int .i64 r.th, .int .i64 r.ve, .bool r.rd, .bool r.wr, .bool r.wk]) rfl rfl rfl ?_
 intro B101 w102 hN103
 have hlB101 := hN_ge hN103 hb0
 have hb104 := low0 hb0 hN103.grw
 refine wpo_assign (v := .bool false) rfl rfl ?_
 refine wpo_nil ?_
 refine wpf_seq ?_
 refine wpf_seq_region ?_
 refine wpo_fieldAddr (o' := 0) fo_74_0 rfl rfl rfl ?_
 refine wpo_load1 (v := .int .i64 r.th) ot_3 rfl (hN103.blk.cell rfl) rfl ?_
 refine wpo_eql (q := decide (r.th = 0)) rfl rfl rfl rfl ?_
 refine wpo_nil ?_
 refine wpf_cond rfl (fun h105 => ?_) (fun h105 => ?_)
 ·
  have h106 := of_decide_eq_true h105
  refine wpf_seq_region ?_
  refine wpo_loadn (vs := [.int .i64 r.th, .int .i64 r.ve, .bool r.rd, .bool r.wr, .bool r.wk]) rt_74 rfl rfl (hN103.blk.rangeL 0 5 rfl) rfl ?_
  refine wpo_build (ps := []) (v := .agg #[.int .i64 0, .int .i64 0, .bool false, .bool false, .bool false]) parts_nil (fun _ => by kernel_rfl) rfl ?_
  refine wpo_eqs (q := decide (r = Rt.zero)) rfl rfl rfl rfl (fun _ => eqG_74 _ _ r Rt.zero _) (fun _ => eqV_74 r Rt.zero _) rfl rfl ?_
  refine wpo_assign (v := .bool (decide (r = Rt.zero))) rfl rfl ?_
  refine wpo_nil ?_
  refine wpf_ret ?_
  refine thn_r ?_
  refine ⟨.bool (decide (r = Rt.zero)), res1 rfl rfl, ?_, hb104⟩
  exact congrArg Value.bool (rightOk_z h105)
 ·
  have h107 := of_decide_eq_false h105
  refine wpf_skip ?_
  refine thn_n ?_
  refine wpf_seq_region_mid (fun f' w' => (f' 2 = .bool ((inR r.th 1 8 && inR r.ve 0 5) && (!(r.wk && r.wr)))) ∧ w102.grownBy w' none) ?_ ?_
  ·
   refine wpo_fieldAddr (o' := 0) fo_74_0 rfl rfl rfl ?_
   refine wpo_load1 (v := .int .i64 r.th) ot_3 rfl (hN103.blk.cell rfl) rfl ?_
   refine wpo_call (vs := [.int .i64 r.th, .int .i64 1, .int .i64 8]) gf_46 (args_cons rfl (args_cons rfl (args_cons rfl args_nil))) rfl (l6In_c r.th 1 8 _) ?_
   rintro _ w119 ⟨rfl, hg120⟩
   have hb121 := low0 hb104 hg120
   refine wpo_move (v := .bool (inR r.th 1 8)) rfl rfl ?_
   rcases bcases (inR r.th 1 8) with h122 | h122
   ·
    refine wpo_run rfl rfl rfl h122 ?_
    refine wpo_fieldAddr (o' := 1) fo_74_1 rfl rfl rfl ?_
    refine wpo_run rfl rfl rfl h122 ?_
    have k123 := (hN103.blk.grown0 hg120)
    refine wpo_load1 (v := .int .i64 r.ve) ot_3 rfl (k123.cell rfl) rfl ?_
    refine wpo_run rfl rfl rfl h122 ?_
    refine wpo_call (vs := [.int .i64 r.ve, .int .i64 0, .int .i64 5]) gf_46 (args_cons rfl (args_cons rfl (args_cons rfl args_nil))) rfl (l6In_c r.ve 0 5 _) ?_
    rintro _ w124 ⟨rfl, hg125⟩
    have hb126 := low0 hb121 hg125
    refine wpo_pickt (v := .bool (inR r.ve 0 5)) rfl h122 rfl rfl ?_
    refine wpo_move (v := .bool (inR r.ve 0 5)) rfl rfl ?_
    rcases bcases (inR r.ve 0 5) with h127 | h127
    ·
     refine wpo_run rfl rfl rfl h127 ?_
     refine wpo_fieldAddr (o' := 4) fo_74_4 rfl rfl rfl ?_
     refine wpo_run rfl rfl rfl h127 ?_
     have k128 := (k123.grown0 hg125)
     refine wpo_load1 (v := .bool r.wk) ot_4 rfl (k128.cell rfl) rfl ?_
     refine wpo_run rfl rfl rfl h127 ?_
     refine wpo_move (v := .bool r.wk) rfl rfl ?_
     rcases bcases (r.wk) with h129 | h129
     ·
      refine wpo_run rfl rfl rfl h129 ?_
      refine wpo_fieldAddr (o' := 3) fo_74_3 rfl rfl rfl ?_
      refine wpo_run rfl rfl rfl h129 ?_
      refine wpo_load1 (v := .bool r.wr) ot_4 rfl (k128.cell rfl) rfl ?_
      refine wpo_run rfl rfl rfl h127 ?_
      refine wpo_pickt (v := .bool r.wr) rfl h129 rfl rfl ?_
      refine wpo_run rfl rfl rfl h127 ?_
      refine wpo_not (b' := !r.wr) rfl rfl rfl ?_
      refine wpo_pickt (v := .bool (!r.wr)) rfl h127 rfl rfl ?_
      refine wpo_assign (v := .bool (!r.wr)) rfl rfl ?_
      exact wpo_nil ⟨(congrArg Value.bool (by first | (simp only [h105, h122, h127, h129, b0, b1, b2, b3, b4, b5, b6, b7, b8, b9]; done) | simp [h105, h122, h127, h129])), (grown_trans hg120 hg125)⟩
     ·
      refine wpo_pass rfl rfl rfl h129 rfl ?_
      refine wpo_pass rfl rfl rfl h129 rfl ?_
      refine wpo_run rfl rfl rfl h127 ?_
      refine wpo_pickf (v := .bool false) rfl h129 rfl rfl ?_
      refine wpo_run rfl rfl rfl h127 ?_
      refine wpo_not (b' := true) rfl rfl rfl ?_
      refine wpo_pickt (v := .bool true) rfl h127 rfl rfl ?_
      refine wpo_assign (v := .bool true) rfl rfl ?_
      exact wpo_nil ⟨(congrArg Value.bool (by first | (simp only [h105, h122, h127, h129, b0, b1, b2, b3, b4, b5, b6, b7, b8, b9]; done) | simp [h105, h122, h127, h129])), (grown_trans hg120 hg125)⟩
    ·
     iterate 3 refine wpo_pass rfl rfl rfl h127 rfl ?_
     refine wpo_passu rfl rfl rfl rfl ?_
     refine wpo_passu rfl rfl rfl rfl ?_
     refine wpo_pass rfl rfl rfl h127 rfl ?_
     refine wpo_pass rfl rfl rfl h127 rfl ?_
     refine wpo_pickf (v := .bool false) rfl h127 rfl rfl ?_
     refine wpo_assign (v := .bool false) rfl rfl ?_
     exact wpo_nil ⟨(congrArg Value.bool (by first | (simp only [h105, h122, h127, b0, b1, b2, b3, b4, b5, b6, b7, b8, b9]; done) | simp [h105, h122, h127])), (grown_trans hg120 hg125)⟩
   ·
    iterate 3 refine wpo_pass rfl rfl rfl h122 rfl ?_
    refine wpo_pickf (v := .bool false) rfl h122 rfl rfl ?_
    refine wpo_move (v := .bool false) rfl rfl ?_
    iterate 3 refine wpo_pass rfl rfl rfl rfl rfl ?_
    refine wpo_passu rfl rfl rfl rfl ?_
    refine wpo_passu rfl rfl rfl rfl ?_
    refine wpo_pass rfl rfl rfl rfl rfl ?_
    refine wpo_pass rfl rfl rfl rfl rfl ?_
    refine wpo_pickf (v := .bool false) rfl rfl rfl rfl ?_
    refine wpo_assign (v := .bool false) rfl rfl ?_
    exact wpo_nil ⟨(congrArg Value.bool (by first | (simp only [h105, h122, b0, b1, b2, b3, b4, b5, b6, b7, b8, b9]; done) | simp [h105, h122])), hg120⟩
  ·
   rintro f130 w131 ⟨e132, hg133⟩
   have hb134 := low0 hb104 hg133
   refine wpf_ret ?_
   refine ⟨.bool ((inR r.th 1 8 && inR r.ve 0 5) && (!(r.wk && r.wr))), res1 rfl e132, ?_, hb134⟩
   exact congrArg Value.bool (rightOk_n h105)
end Go.Dw.J
end
section
namespace Go.Dw.J
open Go.RowKit Go.Dw Go.Proofs
set_option linter.unusedSectionVars false
set_option maxRecDepth 100000
set_option maxHeartbeats 4000000
set_option linter.unusedSimpArgs false
set_option linter.unusedVariables false
theorem es_32 : elemSz Try.prog 32 = some 5 := by kernel_rfl
theorem es_90 : elemSz Try.prog 90 = some 5 := by kernel_rfl
theorem fo_142_0 : fieldOff Try.prog 142 0 = some 0 := by kernel_rfl
theorem fo_142_1 : fieldOff Try.prog 142 1 = some 1 := by kernel_rfl
theorem fo_142_2 : fieldOff Try.prog 142 2 = some 2 := by kernel_rfl
theorem fo_142_3 : fieldOff Try.prog 142 3 = some 3 := by kernel_rfl
theorem fo_142_4 : fieldOff Try.prog 142 4 = some 4 := by kernel_rfl
theorem fo_74_2 : fieldOff Try.prog 74 2 = some 2 := by kernel_rfl
theorem gf_121 : goFn Try.prog 121 = true := by kernel_rfl
theorem gf_122 : goFn Try.prog 122 = true := by kernel_rfl
theorem mk_32 : mkTy Try.prog 32 = some (74, 5, 24, some (.agg #[.int .i64 0, .int .i64 0, .bool false, .bool false, .bool false])) := by kernel_rfl
theorem rt_142 : rowTy Try.prog 142 = some 5 := by kernel_rfl
theorem zt_74 : zeroTy Try.prog 74 = some (.agg #[.int .i64 0, .int .i64 0, .bool false, .bool false, .bool false]) := by kernel_rfl
theorem toRight_c [Comp] (r : Rt) (w : World) : CallsR Try.prog 121 #[.agg #[.int .i64 r.th, .int .i64 r.ve, .bool r.rd, .bool r.wr, .bool r.wk]] w (fun v w' => v = .agg #[.int .i64 r.th, .int .i64 r.ve, .bool r.rd, .bool r.wr, .bool r.wk] ∧ w.grownBy w' none) := by
 refine calls_of_wpf (n := 20) Try.func121 rfl Try.ntmps121 rfl ?_
 have hb0 := World.grownBy.refl w none
 refine wpf_seq_region ?_
 refine wpo_box (v := .agg #[.int .i64 r.th, .int .i64 r.ve, .bool r.rd, .bool r.wr, .bool r.wk]) (cs := #[.int .i64 r.th, .int .i64 r.ve, .bool r.rd, .bool r.wr, .bool r.wk]) rfl rfl rfl ?_
 intro B101 w102 hN103
 have hlB101 := hN_ge hN103 hb0
 have hb104 := low0 hb0 hN103.grw
 refine wpo_alloc (cs := #[.int .i64 0, .int .i64 0, .bool false, .bool false, .bool false]) zt_74 rfl rfl ?_
 intro B105 w106 hN107
 have hlB105 := hN_ge hN107 hb104
 have lt_B101_B105 := hN_gtl hN107 (hN103.blk).lt
 have hb108 := low0 hb104 hN107.grw
 refine wpo_nil ?_
 refine wpf_seq_region ?_
 refine wpo_alloc (cs := #[.int .i64 0, .int .i64 0, .bool false, .bool false, .bool false]) zt_74 rfl rfl ?_
 intro B109 w110 hN111
 have hlB109 := hN_ge hN111 hb108
 have k112 := (hN103.blk.grown0 hN107.grw)
 have lt_B101_B109 := hN_gtl hN111 (k112).lt
 have lt_B105_B109 := hN_gtl hN111 (hN107.blk).lt
 have hb113 := low0 hb108 hN111.grw
 refine wpo_nil ?_
 refine wpf_seq_region ?_
 refine wpo_fieldAddr (o' := 0) fo_142_0 rfl rfl rfl ?_
 have k114 := (k112.grown0 hN111.grw)
 refine wpo_load1 (v := .int .i64 r.th) ot_3 rfl (k114.cell rfl) rfl ?_
 refine wpo_fieldAddr (o' := 0) fo_74_0 rfl rfl rfl ?_
 refine wpo_store1 (v := .int .i64 r.th) (cs' := #[.int .i64 r.th, .int .i64 0, .bool false, .bool false, .bool false]) ot_3 rfl rfl rfl hN111.blk (Nat.le_of_ble_eq_true rfl) rfl ?_
 intro w115 hS116
 have hb117 := low1 hb113 hS116.grw (by omega)
 refine wpo_nil ?_
 refine wpf_seq_region ?_
 refine wpo_fieldAddr (o' := 1) fo_142_1 rfl rfl rfl ?_
 have k118 := (k114.gn hS116.grw)
 refine wpo_load1 (v := .int .i64 r.ve) ot_3 rfl (k118.cell rfl) rfl ?_
 refine wpo_fieldAddr (o' := 1) fo_74_1 rfl rfl rfl ?_
 refine wpo_store1 (v := .int .i64 r.ve) (cs' := #[.int .i64 r.th, .int .i64 r.ve, .bool false, .bool false, .bool false]) ot_3 rfl rfl rfl hS116.blk (Nat.le_of_ble_eq_true rfl) rfl ?_
 intro w119 hS120
 have hb121 := low1 hb117 hS120.grw (by omega)
 refine wpo_nil ?_
 refine wpf_seq_region ?_
 refine wpo_fieldAddr (o' := 2) fo_142_2 rfl rfl rfl ?_
 have k122 := (k118.gn hS120.grw)
 refine wpo_load1 (v := .bool r.rd) ot_4 rfl (k122.cell rfl) rfl ?_
 refine wpo_fieldAddr (o' := 2) fo_74_2 rfl rfl rfl ?_
 refine wpo_store1 (v := .bool r.rd) (cs' := #[.int .i64 r.th, .int .i64 r.ve, .bool r.rd, .bool false, .bool false]) ot_4 rfl rfl rfl hS120.blk (Nat.le_of_ble_eq_true rfl) rfl ?_
 intro w123 hS124
 have hb125 := low1 hb121 hS124.grw (by omega)
 refine wpo_nil ?_
 refine wpf_seq_region ?_
 refine wpo_fieldAddr (o' := 3) fo_142_3 rfl rfl rfl ?_
 have k126 := (k122.gn hS124.grw)
 refine wpo_load1 (v := .bool r.wr) ot_4 rfl (k126.cell rfl) rfl ?_
 refine wpo_fieldAddr (o' := 3) fo_74_3 rfl rfl rfl ?_
 refine wpo_store1 (v := .bool r.wr) (cs' := #[.int .i64 r.th, .int .i64 r.ve, .bool r.rd, .bool r.wr, .bool false]) ot_4 rfl rfl rfl hS124.blk (Nat.le_of_ble_eq_true rfl) rfl ?_
 intro w127 hS128
 have hb129 := low1 hb125 hS128.grw (by omega)
 refine wpo_nil ?_
 refine wpf_seq_region ?_
 refine wpo_fieldAddr (o' := 4) fo_142_4 rfl rfl rfl ?_
 have k130 := (k126.gn hS128.grw)
 refine wpo_load1 (v := .bool r.wk) ot_4 rfl (k130.cell rfl) rfl ?_
 refine wpo_fieldAddr (o' := 4) fo_74_4 rfl rfl rfl ?_
 refine wpo_store1 (v := .bool r.wk) (cs' := #[.int .i64 r.th, .int .i64 r.ve, .bool r.rd, .bool r.wr, .bool r.wk]) ot_4 rfl rfl rfl hS128.blk (Nat.le_of_ble_eq_true rfl) rfl ?_
 intro w131 hS132
 have hb133 := low1 hb129 hS132.grw (by omega)
 refine wpo_nil ?_
 refine wpf_seq_region ?_
 refine wpo_loadn (vs := [.int .i64 r.th, .int .i64 r.ve, .bool r.rd, .bool r.wr, .bool r.wk]) rt_74 rfl rfl (hS132.blk.rangeL 0 5 rfl) rfl ?_
 have k134 := ((((((hN107.blk.grown0 hN111.grw).gn hS116.grw).gn hS120.grw).gn hS124.grw).gn hS128.grw).gn hS132.grw)
 refine wpo_storen (vs := [.int .i64 r.th, .int .i64 r.ve, .bool r.rd, .bool r.wr, .bool r.wk]) (cs' := #[.int .i64 r.th, .int .i64 r.ve, .bool r.rd, .bool r.wr, .bool r.wk]) rt_74 rfl rfl rfl (by simp [Value.oneCell']) k134 (Nat.le_of_ble_eq_true rfl) rfl ?_
 intro w135 hS136
 have hb137 := low1 hb133 hS136.grw (by omega)
 refine wpo_nil ?_
 refine wpf_ret ?_
 refine ⟨.agg #[.int .i64 r.th, .int .i64 r.ve, .bool r.rd, .bool r.wr, .bool r.wk], resC rfl (resCell_mk (vs := [.int .i64 r.th, .int .i64 r.ve, .bool r.rd, .bool r.wr, .bool r.wk]) rt_74 rfl rfl (hS136.blk.rangeL 0 5 rfl)), ?_, hb137⟩
 rfl
theorem szRightS_c [Comp] (m : Int) (w : World) (xs : List Rt) (a : Option Addr) (c : Nat) (hn : xs.length ≤ 9223372036854775807) (hm : 0 ≤ m ∧ m ≤ 1048576) : CallsR Try.prog 102 #[.slice a xs.length c, .int .i64 m] w (fun v w' => ∃ n : Int, v = .int .i64 n ∧ (0 ≤ n → (xs.length : Int) + n ≤ m) ∧ -1 ≤ n ∧ n ≤ m ∧ w.grownBy w' none) := by
 refine calls_of_wpf (n := 12) Try.func102 rfl Try.ntmps102 rfl ?_
 have hb0 := World.grownBy.refl w none
 refine wpf_seq_region ?_
 refine wpo_assign (v := .int .i64 0) rfl rfl ?_
 refine wpo_nil ?_
 refine wpf_seq_region ?_
 refine wpo_move (v := .int .i64 m) rfl rfl ?_
 refine wpo_move (v := .slice a xs.length c) rfl rfl ?_
 refine wpo_len (by kernel_rfl) rfl rfl ?_
 refine wpo_sub (c := m - (xs.length : Int)) rfl rfl (by omega) (by omega) (by omega) rfl ?_
 refine wpo_assign (v := .int .i64 (m - (xs.length : Int))) rfl rfl ?_
 refine wpo_nil ?_
 refine wpf_seq ?_
 refine wpf_seq_region ?_
 refine wpo_move (v := .int .i64 (m - (xs.length : Int))) rfl rfl ?_
 refine wpo_lss (q := decide (m - (xs.length : Int) < 0)) rfl rfl rfl rfl ?_
 refine wpo_nil ?_
 refine wpf_cond rfl (fun h101 => ?_) (fun h101 => ?_)
 ·
  have h102 := of_decide_eq_true h101
  refine wpf_seq_region ?_
  refine wpo_assign (v := .int .i64 (-1)) rfl rfl ?_
  refine wpo_nil ?_
  refine wpf_ret ?_
  refine thn_r ?_
  refine ⟨.int .i64 (-1), res1 rfl rfl, (-1), rfl, by omega, by omega, by omega, hb0⟩
 ·
  have h103 := of_decide_eq_false h101
  refine wpf_skip ?_
  refine thn_n ?_
  refine wpf_seq_region ?_
  refine wpo_move (v := .int .i64 (m - (xs.length : Int))) rfl rfl ?_
  refine wpo_assign (v := .int .i64 (m - (xs.length : Int))) rfl rfl ?_
  refine wpo_nil ?_
  refine wpf_ret ?_
  refine ⟨.int .i64 (m - (xs.length : Int)), res1 rfl rfl, (m - (xs.length : Int)), rfl, by omega, by omega, by omega, hb0⟩
theorem toRightS_c [Comp] (w : World) (xs : List Rt) (a : Option Addr) (c : Nat) (hs : SlAt w a 5 (xs.map Rt.cells)) (hn : xs.length ≤ 1048576) : CallsR Try.prog 104 #[.slice a xs.length c] w (fun v w' => ∃ B : Nat, v = .slice (some ⟨B, 0, none⟩) xs.length xs.length ∧ w.heap.size ≤ B ∧ Blk w' B 74 (xs.flatMap Rt.cells).toArray ∧ w.grownBy w' none) := by
 refine calls_of_wpf (n := 23) Try.func104 rfl Try.ntmps104 rfl ?_
 have hb0 := World.grownBy.refl w none
 refine wpf_seq_region ?_
 refine wpo_assign (v := .slice none 0 0) rfl rfl ?_
 refine wpo_nil ?_
 refine wpf_seq_region ?_
 refine wpo_move (v := .slice a xs.length c) rfl rfl ?_
 refine wpo_len (by kernel_rfl) rfl rfl ?_
 refine wpo_make (g := Rt.cells) (z := Rt.zero) (c := xs.length) mk_32 rfl wide_rt (by omega) rfl rfl (by omega) (by omega) rfl ?_
 intro B101 w102 hN103
 have hlB101 := hN_ge hN103 hb0
 have hb104 := low0 hb0 hN103.grw
 refine wpo_assign (v := .slice (some ⟨B101, 0, none⟩) xs.length xs.length) rfl rfl ?_
 refine wpo_nil ?_
 refine wpf_seq ?_
 refine wpf_seq_region ?_
 refine wpo_assign (v := .int .i64 0) rfl rfl ?_
 refine wpo_nil ?_
 refine wpf_block ?_
 refine wpf_loopN (fun mm f' w' => ∃ (k : Nat), mm = xs.length - k ∧ k ≤ xs.length ∧ f' 4 = .int .i64 (k : Int) ∧ f' 0 = .slice a xs.length c ∧ f' 2 = .slice none 0 0 ∧ f' 3 = .slice (some ⟨B101, 0, none⟩) xs.length xs.length ∧ w.grownBy w' none ∧ Blk w' B101 74 ((fill xs Rt.zero k).flatMap Rt.cells).toArray) (xs.length - 0) ⟨0, rfl, (Nat.zero_le _), rfl, rfl, rfl, rfl, hb104, (by rw [fill_zero]; exact hN103.blk)⟩ ?_
 rintro mm f105 w106 ⟨k, hm108, hk, e109, e110, e111, e112, hb107, k113⟩
 refine wpf_seq ?_
 refine wpf_seq_region ?_
 refine wpo_move (v := .int .i64 (k : Int)) e109 rfl ?_
 refine wpo_move (v := .slice a xs.length c) e110 rfl ?_
 refine wpo_len (by kernel_rfl) rfl rfl ?_
 refine wpo_lss (q := decide ((k : Int) < (xs.length : Int))) rfl rfl rfl rfl ?_
 refine wpo_nil ?_
 refine wpf_cond rfl (fun h114 => ?_) (fun h114 => ?_)
 ·
  have h115 := of_decide_eq_true h114
  refine wpf_skip ?_
  refine thn_n ?_
  refine wpf_seq ?_
  refine wpf_block ?_
  refine wpf_region ?_
  refine wpo_move (v := .slice (some ⟨B101, 0, none⟩) xs.length xs.length) e112 rfl ?_
  refine wpo_move (v := .int .i64 (k : Int)) e109 rfl ?_
  refine wpo_move (v := .slice a xs.length c) e110 rfl ?_
  refine wpo_move (v := .int .i64 (k : Int)) e109 rfl ?_
  obtain ⟨x116, hx117⟩ := get_lt (l := xs) (i := k) (by omega)
  obtain ⟨b118, q119, o120, ha121, ho122, hr123⟩ := SlAt.at hs (map_get hx117)
  refine wpo_indexE es_90 rfl rfl ha121 ho122 (by omega) (by omega) rfl ?_
  refine wpo_loadn (vs := [.int .i64 x116.th, .int .i64 x116.ve, .bool x116.rd, .bool x116.wr, .bool x116.wk]) rt_142 rfl rfl (range_sub (range_low hr123 hb107) 0 5 rfl) rfl ?_
  refine wpo_call (vs := [.agg #[.int .i64 x116.th, .int .i64 x116.ve, .bool x116.rd, .bool x116.wr, .bool x116.wk]]) gf_121 (args_cons rfl args_nil) rfl (toRight_c x116 _) ?_
  rintro _ w124 ⟨rfl, hg125⟩
  have hb126 := low0 hb107 hg125
  refine wpo_indexAddr (o' := k * 5) es_32 rfl rfl (by omega) (by omega) (by omega) rfl ?_
  have k127 := (k113.grown0 hg125)
  refine wpo_storen (vs := [.int .i64 x116.th, .int .i64 x116.ve, .bool x116.rd, .bool x116.wr, .bool x116.wk]) (cs' := (((fill xs Rt.zero k).set k x116).flatMap Rt.cells).toArray) rt_74 rfl rfl rfl (by simp [Value.oneCell']) k127 (rows_le wide_rt (by rw [fill_len hk]; omega)) (rows_setA wide_rt (by rw [fill_len hk]; omega) x116) ?_
  intro w128 hS129
  have hb130 := low1 hb126 hS129.grw (by omega)
  refine wpo_nil ?_
  refine blk_n ?_
  refine thn_n ?_
  refine wpf_region ?_
  refine wpo_move (v := .int .i64 (k : Int)) e109 rfl ?_
  refine wpo_add (c := (k : Int) + 1) rfl rfl (by omega) (by omega) (by omega) rfl ?_
  refine wpo_assign (v := .int .i64 ((k : Int) + 1)) rfl rfl ?_
  refine wpo_nil ?_
  refine thn_n ?_
  exact ⟨xs.length - (k + 1), by omega, (k + 1), rfl, (by omega), rfl, e110, e111, e112, hb130, (by have kk := hS129.blk; rw [fill_set hx117] at kk; exact kk)⟩
 ·
  have h131 := of_decide_eq_false h114
  refine wpf_exit ?_
  refine thn_e ?_
  refine thn_e ?_
  refine blk_e ?_
  refine thn_n ?_
  refine wpf_seq_region ?_
  refine wpo_move (v := .slice (some ⟨B101, 0, none⟩) xs.length xs.length) e112 rfl ?_
  refine wpo_assign (v := .slice (some ⟨B101, 0, none⟩) xs.length xs.length) rfl rfl ?_
  refine wpo_nil ?_
  refine wpf_ret ?_
  refine ⟨.slice (some ⟨B101, 0, none⟩) xs.length xs.length, res1 rfl rfl, B101, rfl, hlB101, ?_, hb107⟩
  have kk := k113
  rw [fill_all (by omega)] at kk
  exact kk
theorem eqRight_c [Comp] (a b : Rt) (w : World) : CallsR Try.prog 122 #[.agg #[.int .i64 a.th, .int .i64 a.ve, .bool a.rd, .bool a.wr, .bool a.wk], .agg #[.int .i64 b.th, .int .i64 b.ve, .bool b.rd, .bool b.wr, .bool b.wk]] w (fun v w' => v = .bool (decide (a = b)) ∧ w.grownBy w' none) := by
 refine calls_of_wpf (n := 30) Try.func122 rfl Try.ntmps122 rfl ?_
 have hb0 := World.grownBy.refl w none
 refine wpf_seq_region ?_
 refine wpo_box (v := .agg #[.int .i64 a.th, .int .i64 a.ve, .bool a.rd, .bool a.wr, .bool a.wk]) (cs := #[.int .i64 a.th, .int .i64 a.ve, .bool a.rd, .bool a.wr, .bool a.wk]) rfl rfl rfl ?_
 intro B101 w102 hN103
 have hlB101 := hN_ge hN103 hb0
 have hb104 := low0 hb0 hN103.grw
 refine wpo_box (v := .agg #[.int .i64 b.th, .int .i64 b.ve, .bool b.rd, .bool b.wr, .bool b.wk]) (cs := #[.int .i64 b.th, .int .i64 b.ve, .bool b.rd, .bool b.wr, .bool b.wk]) rfl rfl rfl ?_
 intro B105 w106 hN107
 have hlB105 := hN_ge hN107 hb104
 have lt_B101_B105 := hN_gtl hN107 (hN103.blk).lt
 have hb108 := low0 hb104 hN107.grw
 refine wpo_assign (v := .bool false) rfl rfl ?_
 refine wpo_nil ?_
 refine wpf_seq ?_
 refine wpf_seq_region ?_
 refine wpo_fieldAddr (o' := 0) fo_74_0 rfl rfl rfl ?_
 have k109 := (hN103.blk.grown0 hN107.grw)
 refine wpo_load1 (v := .int .i64 a.th) ot_3 rfl (k109.cell rfl) rfl ?_
 refine wpo_fieldAddr (o' := 0) fo_74_0 rfl rfl rfl ?_
 refine wpo_load1 (v := .int .i64 b.th) ot_3 rfl (hN107.blk.cell rfl) rfl ?_
 refine wpo_neq (q := !(decide (a.th = b.th))) rfl rfl rfl rfl ?_
 refine wpo_nil ?_
 refine wpf_cond rfl (fun h110 => ?_) (fun h110 => ?_)
 ·
  have h111 := nt_t h110
  have h112 := of_decide_eq_false h111
  refine wpf_seq_region ?_
  refine wpo_assign (v := .bool false) rfl rfl ?_
  refine wpo_nil ?_
  refine wpf_ret ?_
  refine thn_r ?_
  refine ⟨.bool false, res1 rfl rfl, ?_, hb108⟩
  obtain ⟨a1, a2, a3, a4, a5⟩ := a
  obtain ⟨b1, b2, b3, b4, b5⟩ := b
  simp_all
 ·
  have h113 := nt_f h110
  have h114 := of_decide_eq_true h113
  refine wpf_skip ?_
  refine thn_n ?_
  refine wpf_seq ?_
  refine wpf_seq_region ?_
  refine wpo_fieldAddr (o' := 1) fo_74_1 rfl rfl rfl ?_
  refine wpo_load1 (v := .int .i64 a.ve) ot_3 rfl (k109.cell rfl) rfl ?_
  refine wpo_fieldAddr (o' := 1) fo_74_1 rfl rfl rfl ?_
  refine wpo_load1 (v := .int .i64 b.ve) ot_3 rfl (hN107.blk.cell rfl) rfl ?_
  refine wpo_neq (q := !(decide (a.ve = b.ve))) rfl rfl rfl rfl ?_
  refine wpo_nil ?_
  refine wpf_cond rfl (fun h115 => ?_) (fun h115 => ?_)
  ·
   have h116 := nt_t h115
   have h117 := of_decide_eq_false h116
   refine wpf_seq_region ?_
   refine wpo_assign (v := .bool false) rfl rfl ?_
   refine wpo_nil ?_
   refine wpf_ret ?_
   refine thn_r ?_
   refine ⟨.bool false, res1 rfl rfl, ?_, hb108⟩
   obtain ⟨a1, a2, a3, a4, a5⟩ := a
   obtain ⟨b1, b2, b3, b4, b5⟩ := b
   simp_all
  ·
   have h118 := nt_f h115
   have h119 := of_decide_eq_true h118
   refine wpf_skip ?_
   refine thn_n ?_
   refine wpf_seq ?_
   refine wpf_seq_region ?_
   refine wpo_fieldAddr (o' := 2) fo_74_2 rfl rfl rfl ?_
   refine wpo_load1 (v := .bool a.rd) ot_4 rfl (k109.cell rfl) rfl ?_
   refine wpo_fieldAddr (o' := 2) fo_74_2 rfl rfl rfl ?_
   refine wpo_load1 (v := .bool b.rd) ot_4 rfl (hN107.blk.cell rfl) rfl ?_
   refine wpo_neqb (q := !(decide (a.rd = b.rd))) (by kernel_rfl) rfl rfl rfl rfl ?_
   refine wpo_nil ?_
   refine wpf_cond rfl (fun h120 => ?_) (fun h120 => ?_)
   ·
    have h121 := nt_t h120
    have h122 := of_decide_eq_false h121
    refine wpf_seq_region ?_
    refine wpo_assign (v := .bool false) rfl rfl ?_
    refine wpo_nil ?_
    refine wpf_ret ?_
    refine thn_r ?_
    refine ⟨.bool false, res1 rfl rfl, ?_, hb108⟩
    obtain ⟨a1, a2, a3, a4, a5⟩ := a
    obtain ⟨b1, b2, b3, b4, b5⟩ := b
    simp_all
   ·
    have h123 := nt_f h120
    have h124 := of_decide_eq_true h123
    refine wpf_skip ?_
    refine thn_n ?_
    refine wpf_seq ?_
    refine wpf_seq_region ?_
    refine wpo_fieldAddr (o' := 3) fo_74_3 rfl rfl rfl ?_
    refine wpo_load1 (v := .bool a.wr) ot_4 rfl (k109.cell rfl) rfl ?_
    refine wpo_fieldAddr (o' := 3) fo_74_3 rfl rfl rfl ?_
    refine wpo_load1 (v := .bool b.wr) ot_4 rfl (hN107.blk.cell rfl) rfl ?_
    refine wpo_neqb (q := !(decide (a.wr = b.wr))) (by kernel_rfl) rfl rfl rfl rfl ?_
    refine wpo_nil ?_
    refine wpf_cond rfl (fun h125 => ?_) (fun h125 => ?_)
    ·
     have h126 := nt_t h125
     have h127 := of_decide_eq_false h126
     refine wpf_seq_region ?_
     refine wpo_assign (v := .bool false) rfl rfl ?_
     refine wpo_nil ?_
     refine wpf_ret ?_
     refine thn_r ?_
     refine ⟨.bool false, res1 rfl rfl, ?_, hb108⟩
     obtain ⟨a1, a2, a3, a4, a5⟩ := a
     obtain ⟨b1, b2, b3, b4, b5⟩ := b
     simp_all
    ·
     have h128 := nt_f h125
     have h129 := of_decide_eq_true h128
     refine wpf_skip ?_
     refine thn_n ?_
     refine wpf_seq ?_
     refine wpf_seq_region ?_
     refine wpo_fieldAddr (o' := 4) fo_74_4 rfl rfl rfl ?_
     refine wpo_load1 (v := .bool a.wk) ot_4 rfl (k109.cell rfl) rfl ?_
     refine wpo_fieldAddr (o' := 4) fo_74_4 rfl rfl rfl ?_
     refine wpo_load1 (v := .bool b.wk) ot_4 rfl (hN107.blk.cell rfl) rfl ?_
     refine wpo_neqb (q := !(decide (a.wk = b.wk))) (by kernel_rfl) rfl rfl rfl rfl ?_
     refine wpo_nil ?_
     refine wpf_cond rfl (fun h130 => ?_) (fun h130 => ?_)
     ·
      have h131 := nt_t h130
      have h132 := of_decide_eq_false h131
      refine wpf_seq_region ?_
      refine wpo_assign (v := .bool false) rfl rfl ?_
      refine wpo_nil ?_
      refine wpf_ret ?_
      refine thn_r ?_
      refine ⟨.bool false, res1 rfl rfl, ?_, hb108⟩
      obtain ⟨a1, a2, a3, a4, a5⟩ := a
      obtain ⟨b1, b2, b3, b4, b5⟩ := b
      simp_all
     ·
      have h133 := nt_f h130
      have h134 := of_decide_eq_true h133
      refine wpf_skip ?_
      refine thn_n ?_
      refine wpf_seq_region ?_
      refine wpo_assign (v := .bool true) rfl rfl ?_
      refine wpo_nil ?_
      refine wpf_ret ?_
      refine ⟨.bool true, res1 rfl rfl, ?_, hb108⟩
      obtain ⟨a1, a2, a3, a4, a5⟩ := a
      obtain ⟨b1, b2, b3, b4, b5⟩ := b
      simp_all
theorem eqRightS_c [Comp] (w : World) (xs ys : List Rt) (a b : Option Addr) (c e : Nat) (hs : SlAt w a 5 (xs.map Rt.cells)) (ht : SlAt w b 5 (ys.map Rt.cells)) (hn : xs.length ≤ 1048576) (hm : ys.length ≤ 1048576) : CallsR Try.prog 107 #[.slice a xs.length c, .slice b ys.length e] w (fun v w' => v = .bool (decide (xs = ys)) ∧ w.grownBy w' none) := by
 refine calls_of_wpf (n := 27) Try.func107 rfl Try.ntmps107 rfl ?_
 have hb0 := World.grownBy.refl w none
 refine wpf_seq_region ?_
 refine wpo_assign (v := .bool false) rfl rfl ?_
 refine wpo_nil ?_
 refine wpf_seq ?_
 refine wpf_seq_region ?_
 refine wpo_move (v := .slice a xs.length c) rfl rfl ?_
 refine wpo_len (by kernel_rfl) rfl rfl ?_
 refine wpo_move (v := .slice b ys.length e) rfl rfl ?_
 refine wpo_len (by kernel_rfl) rfl rfl ?_
 refine wpo_neq (q := !(decide ((xs.length : Int) = (ys.length : Int)))) rfl rfl rfl rfl ?_
 refine wpo_nil ?_
 refine wpf_cond rfl (fun h101 => ?_) (fun h101 => ?_)
 ·
  have h102 := nt_t h101
  have h103 := of_decide_eq_false h102
  refine wpf_seq_region ?_
  refine wpo_assign (v := .bool false) rfl rfl ?_
  refine wpo_nil ?_
  refine wpf_ret ?_
  refine thn_r ?_
  refine ⟨.bool false, res1 rfl rfl, ?_, hb0⟩
  exact congrArg Value.bool (decide_eq_false (fun h => by have := congrArg List.length h; omega)).symm
 ·
  have h104 := nt_f h101
  have h105 := of_decide_eq_true h104
  refine wpf_skip ?_
  refine thn_n ?_
  refine wpf_seq ?_
  refine wpf_seq_region ?_
  refine wpo_assign (v := .int .i64 0) rfl rfl ?_
  refine wpo_nil ?_
  refine wpf_block ?_
  refine wpf_loopN (fun mm f' w' => ∃ (k : Nat), mm = xs.length - k ∧ k ≤ xs.length ∧ xs.take k = ys.take k ∧ f' 5 = .int .i64 (k : Int) ∧ f' 0 = .slice a xs.length c ∧ f' 1 = .slice b ys.length e ∧ w.grownBy w' none) (xs.length - 0) ⟨0, rfl, (Nat.zero_le _), rfl, rfl, rfl, rfl, hb0⟩ ?_
  rintro mm f106 w107 ⟨k, hm109, hk, ha, e110, e111, e112, hb108⟩
  refine wpf_seq ?_
  refine wpf_seq_region ?_
  refine wpo_move (v := .int .i64 (k : Int)) e110 rfl ?_
  refine wpo_move (v := .slice a xs.length c) e111 rfl ?_
  refine wpo_len (by kernel_rfl) rfl rfl ?_
  refine wpo_lss (q := decide ((k : Int) < (xs.length : Int))) rfl rfl rfl rfl ?_
  refine wpo_nil ?_
  refine wpf_cond rfl (fun h113 => ?_) (fun h113 => ?_)
  ·
   have h114 := of_decide_eq_true h113
   refine wpf_skip ?_
   refine thn_n ?_
   refine wpf_seq ?_
   refine wpf_block ?_
   refine wpf_seq ?_
   obtain ⟨x153, hx154⟩ := get_lt (l := xs) (i := k) (by omega)
   obtain ⟨b155, q156, o157, ha158, ho159, hr160⟩ := SlAt.at hs (map_get hx154)
   obtain ⟨x161, hx162⟩ := get_lt (l := ys) (i := k) (by omega)
   obtain ⟨b163, q164, o165, ha166, ho167, hr168⟩ := SlAt.at ht (map_get hx162)
   refine wpf_draw (m := 8) (vals := [(17, .slice a xs.length c), (18, .int .i64 (k : Int)), (19, .pointer (some ⟨b155, o157, none⟩)), (20, .agg #[.int .i64 x153.th, .int .i64 x153.ve, .bool x153.rd, .bool x153.wr, .bool x153.wk]), (21, .slice b ys.length e), (22, .int .i64 (k : Int)), (23, .pointer (some ⟨b163, o165, none⟩)), (24, .agg #[.int .i64 x161.th, .int .i64 x161.ve, .bool x161.rd, .bool x161.wr, .bool x161.wk])]) (fun w' => w107.grownBy w' none) mixed_ (by kernel_rfl) (grown_drew _) ?_ ?_
   ·
    refine yll_cons rfl (fun w172 hi173 => ?_) ?_
    ·
     have hb174 := low0 hb108 hi173
     refine wpo_move (v := .slice a xs.length c) e111 rfl ?_
     exact wpo_nil ⟨rfl, hi173⟩
    refine yll_cons rfl (fun w175 hi176 => ?_) ?_
    ·
     have hb177 := low0 hb108 hi176
     refine wpo_move (v := .int .i64 (k : Int)) e110 rfl ?_
     exact wpo_nil ⟨rfl, hi176⟩
    refine yll_cons rfl (fun w178 hi179 => ?_) ?_
    ·
     have hb180 := low0 hb108 hi179
     refine wpo_indexE es_32 rfl rfl ha158 ho159 (by omega) (by omega) rfl ?_
     exact wpo_nil ⟨rfl, hi179⟩
    refine yll_cons rfl (fun w181 hi182 => ?_) ?_
    ·
     have hb183 := low0 hb108 hi182
     refine wpo_loadn (vs := [.int .i64 x153.th, .int .i64 x153.ve, .bool x153.rd, .bool x153.wr, .bool x153.wk]) rt_74 rfl rfl (range_sub (range_low hr160 hb183) 0 5 rfl) rfl ?_
     exact wpo_nil ⟨rfl, hi182⟩
    refine yll_cons rfl (fun w184 hi185 => ?_) ?_
    ·
     have hb186 := low0 hb108 hi185
     refine wpo_move (v := .slice b ys.length e) e112 rfl ?_
     exact wpo_nil ⟨rfl, hi185⟩
    refine yll_cons rfl (fun w187 hi188 => ?_) ?_
    ·
     have hb189 := low0 hb108 hi188
     refine wpo_move (v := .int .i64 (k : Int)) e110 rfl ?_
     exact wpo_nil ⟨rfl, hi188⟩
    refine yll_cons rfl (fun w190 hi191 => ?_) ?_
    ·
     have hb192 := low0 hb108 hi191
     refine wpo_indexE es_32 rfl rfl ha166 ho167 (by omega) (by omega) rfl ?_
     exact wpo_nil ⟨rfl, hi191⟩
    refine yll_cons rfl (fun w193 hi194 => ?_) ?_
    ·
     have hb195 := low0 hb108 hi194
     refine wpo_loadn (vs := [.int .i64 x161.th, .int .i64 x161.ve, .bool x161.rd, .bool x161.wr, .bool x161.wk]) rt_74 rfl rfl (range_sub (range_low hr168 hb195) 0 5 rfl) rfl ?_
     exact wpo_nil ⟨rfl, hi194⟩
    exact yll_nil
   ·
    intro w196 hi197
    have hb198 := low0 hb108 hi197
    refine wpo_call (vs := [.agg #[.int .i64 x153.th, .int .i64 x153.ve, .bool x153.rd, .bool x153.wr, .bool x153.wk], .agg #[.int .i64 x161.th, .int .i64 x161.ve, .bool x161.rd, .bool x161.wr, .bool x161.wk]]) gf_122 (args_cons rfl (args_cons rfl args_nil)) rfl (eqRight_c x153 x161 _) ?_
    rintro _ w199 ⟨rfl, hg200⟩
    have hb201 := low0 hb198 hg200
    refine wpo_not (b' := !(decide (x153 = x161))) rfl rfl rfl ?_
    refine wpo_nil ?_
    refine thn_n ?_
    refine wpf_cond rfl (fun h202 => ?_) (fun h202 => ?_)
    ·
     have h203 := nt_t h202
     have h204 := of_decide_eq_false h203
     refine wpf_seq_region ?_
     refine wpo_assign (v := .bool false) rfl rfl ?_
     refine wpo_nil ?_
     refine wpf_ret ?_
     refine blk_r ?_
     refine thn_r ?_
     refine thn_r ?_
     refine blk_r ?_
     refine thn_r ?_
     refine ⟨.bool false, res1 rfl rfl, ?_, hb201⟩
     exact congrArg Value.bool (decide_eq_false (ne_of_at hx154 hx162 (of_decide_eq_false h203))).symm
    ·
     have h205 := nt_f h202
     have h206 := of_decide_eq_true h205
     refine wpf_skip ?_
     refine blk_n ?_
     refine thn_n ?_
     refine wpf_region ?_
     refine wpo_move (v := .int .i64 (k : Int)) e110 rfl ?_
     refine wpo_add (c := (k : Int) + 1) rfl rfl (by omega) (by omega) (by omega) rfl ?_
     refine wpo_assign (v := .int .i64 ((k : Int) + 1)) rfl rfl ?_
     refine wpo_nil ?_
     refine thn_n ?_
     exact ⟨xs.length - (k + 1), by omega, (k + 1), rfl, (by omega), (take_eq_succ ha hx154 hx162 (of_decide_eq_true h205)), rfl, e111, e112, hb201⟩
  ·
   have h207 := of_decide_eq_false h113
   refine wpf_exit ?_
   refine thn_e ?_
   refine thn_e ?_
   refine blk_e ?_
   refine thn_n ?_
   refine wpf_seq_region ?_
   refine wpo_assign (v := .bool true) rfl rfl ?_
   refine wpo_nil ?_
   refine wpf_ret ?_
   refine ⟨.bool true, res1 rfl rfl, ?_, hb108⟩
   exact congrArg Value.bool (decide_eq_true (eq_of_take ha (by omega) (by omega))).symm
end Go.Dw.J
end
section
namespace Go.Dw.J
open Go.RowKit Go.Dw Go.Proofs
set_option linter.unusedSectionVars false
set_option maxRecDepth 100000
set_option maxHeartbeats 4000000
set_option linter.unusedSimpArgs false
set_option linter.unusedVariables false
theorem es_33 : elemSz Try.prog 33 = some 1 := by kernel_rfl
end Go.Dw.J
end
section
namespace Go.Dw.J
open Go.RowKit Go.Dw Go.Proofs
set_option linter.unusedSectionVars false
set_option maxRecDepth 100000
set_option maxHeartbeats 4000000
set_option linter.unusedSimpArgs false
set_option linter.unusedVariables false
theorem at_77 : arrTy Try.prog 77 = some (4, 74, 5) := by kernel_rfl
theorem fo_35_0 : fieldOff Try.prog 35 0 = some 0 := by kernel_rfl
theorem fo_35_1 : fieldOff Try.prog 35 1 = some 1 := by kernel_rfl
theorem fo_35_2 : fieldOff Try.prog 35 2 = some 3 := by kernel_rfl
theorem fo_35_3 : fieldOff Try.prog 35 3 = some 4 := by kernel_rfl
theorem fo_35_4 : fieldOff Try.prog 35 4 = some 5 := by kernel_rfl
theorem fo_35_5 : fieldOff Try.prog 35 5 = some 6 := by kernel_rfl
theorem fo_35_6 : fieldOff Try.prog 35 6 = some 7 := by kernel_rfl
theorem gf_50 : goFn Try.prog 50 = true := by kernel_rfl
theorem gf_51 : goFn Try.prog 51 = true := by kernel_rfl
theorem gf_52 : goFn Try.prog 52 = true := by kernel_rfl
theorem gf_53 : goFn Try.prog 53 = true := by kernel_rfl
theorem gf_54 : goFn Try.prog 54 = true := by kernel_rfl
theorem gf_55 : goFn Try.prog 55 = true := by kernel_rfl
theorem gf_94 : goFn Try.prog 94 = true := by kernel_rfl
theorem gf_95 : goFn Try.prog 95 = true := by kernel_rfl
theorem gf_97 : goFn Try.prog 97 = true := by kernel_rfl
theorem ot_32 : oneTy Try.prog 32 = true := by kernel_rfl
theorem ot_33 : oneTy Try.prog 33 = true := by kernel_rfl
theorem rt_35 : rowTy Try.prog 35 = some 8 := by kernel_rfl
theorem rt_77 : rowTy Try.prog 77 = some 20 := by kernel_rfl
theorem versOk_c [Comp] (m : MTh) (w : World) : CallsR Try.prog 51 #[.agg #[.int .i64 m.t.kind, .int .i64 m.t.lab.s, .int .i64 m.t.lab.v, .int .i64 m.t.ve, .int .i64 m.t.num, .slice m.sa m.t.slots.length m.sc, .slice m.qa m.t.queue.length m.qc, .int .i64 m.t.to]] w (fun v w' => v = .bool (versOk m.t) ∧ w.grownBy w' none) := by
 refine calls_of_wpf (n := 15) Try.func51 rfl Try.ntmps51 rfl ?_
 have hb0 := World.grownBy.refl w none
 refine wpf_seq_region ?_
 refine wpo_box (v := .agg #[.int .i64 m.t.kind, .int .i64 m.t.lab.s, .int .i64 m.t.lab.v, .int .i64 m.t.ve, .int .i64 m.t.num, .slice m.sa m.t.slots.length m.sc, .slice m.qa m.t.queue.length m.qc, .int .i64 m.t.to]) (cs := #[.int .i64 m.t.kind, .int .i64 m.t.lab.s, .int .i64 m.t.lab.v, .int .i64 m.t.ve, .int .i64 m.t.num, .slice m.sa m.t.slots.length m.sc, .slice m.qa m.t.queue.length m.qc, .int .i64 m.t.to]) rfl rfl rfl ?_
 intro B101 w102 hN103
 have hlB101 := hN_ge hN103 hb0
 have hb104 := low0 hb0 hN103.grw
 refine wpo_assign (v := .bool false) rfl rfl ?_
 refine wpo_nil ?_
 refine wpf_seq ?_
 refine wpf_seq_region ?_
 refine wpo_fieldAddr (o' := 0) fo_35_0 rfl rfl rfl ?_
 refine wpo_load1 (v := .int .i64 m.t.kind) ot_3 rfl (hN103.blk.cell rfl) rfl ?_
 refine wpo_nil ?_
 refine wpf_block ?_
 refine wpf_seq ?_
 refine wpf_seq_region ?_
 refine wpo_eql (q := decide (m.t.kind = 1)) rfl rfl rfl rfl ?_
 refine wpo_assign (v := .bool (decide (m.t.kind = 1))) rfl rfl ?_
 refine wpo_nil ?_
 refine wpf_cond rfl (fun h105 => ?_) (fun h105 => ?_)
 ·
  have h106 := of_decide_eq_true h105
  refine wpf_skip ?_
  refine thn_n ?_
  refine wpf_condt rfl h105 ?_
  refine wpf_seq_region ?_
  refine wpo_fieldAddr (o' := 3) fo_35_2 rfl rfl rfl ?_
  refine wpo_load1 (v := .int .i64 m.t.ve) ot_3 rfl (hN103.blk.cell rfl) rfl ?_
  refine wpo_call (vs := [.int .i64 m.t.ve, .int .i64 0, .int .i64 5]) gf_50 (args_cons rfl (args_cons rfl (args_cons rfl args_nil))) rfl (inRange_c m.t.ve 0 5 _) ?_
  rintro _ w107 ⟨rfl, hg108⟩
  have hb109 := low0 hb104 hg108
  refine wpo_assign (v := .bool (inR m.t.ve 0 5)) rfl rfl ?_
  refine wpo_nil ?_
  refine wpf_ret ?_
  refine blk_r ?_
  refine thn_r ?_
  refine ⟨.bool (inR m.t.ve 0 5), res1 rfl rfl, ?_, hb109⟩
  first | (simp [versOk, h106]; done) | (simp [versOk, h106]; omega) | (simp [versOk, h106]; intros; omega)
 ·
  have h110 := of_decide_eq_false h105
  refine wpf_seq_region ?_
  refine wpo_eql (q := decide (m.t.kind = 2)) rfl rfl rfl rfl ?_
  refine wpo_assign (v := .bool (decide (m.t.kind = 2))) rfl rfl ?_
  refine wpo_nil ?_
  refine wpf_cond rfl (fun h111 => ?_) (fun h111 => ?_)
  ·
   have h112 := of_decide_eq_true h111
   refine wpf_skip ?_
   refine thn_n ?_
   refine wpf_condt rfl h111 ?_
   refine wpf_seq_region ?_
   refine wpo_fieldAddr (o' := 3) fo_35_2 rfl rfl rfl ?_
   refine wpo_load1 (v := .int .i64 m.t.ve) ot_3 rfl (hN103.blk.cell rfl) rfl ?_
   refine wpo_call (vs := [.int .i64 m.t.ve, .int .i64 0, .int .i64 5]) gf_50 (args_cons rfl (args_cons rfl (args_cons rfl args_nil))) rfl (inRange_c m.t.ve 0 5 _) ?_
   rintro _ w113 ⟨rfl, hg114⟩
   have hb115 := low0 hb104 hg114
   refine wpo_assign (v := .bool (inR m.t.ve 0 5)) rfl rfl ?_
   refine wpo_nil ?_
   refine wpf_ret ?_
   refine blk_r ?_
   refine thn_r ?_
   refine ⟨.bool (inR m.t.ve 0 5), res1 rfl rfl, ?_, hb115⟩
   first | (simp [versOk, h110, h112]; done) | (simp [versOk, h110, h112]; omega) | (simp [versOk, h110, h112]; intros; omega)
  ·
   have h116 := of_decide_eq_false h111
   refine wpf_region ?_
   refine wpo_eql (q := decide (m.t.kind = 4)) rfl rfl rfl rfl ?_
   refine wpo_assign (v := .bool (decide (m.t.kind = 4))) rfl rfl ?_
   refine wpo_nil ?_
   refine thn_n ?_
   refine wpf_cond rfl (fun h117 => ?_) (fun h117 => ?_)
   ·
    have h118 := of_decide_eq_true h117
    refine wpf_seq_region ?_
    refine wpo_fieldAddr (o' := 3) fo_35_2 rfl rfl rfl ?_
    refine wpo_load1 (v := .int .i64 m.t.ve) ot_3 rfl (hN103.blk.cell rfl) rfl ?_
    refine wpo_call (vs := [.int .i64 m.t.ve, .int .i64 0, .int .i64 5]) gf_50 (args_cons rfl (args_cons rfl (args_cons rfl args_nil))) rfl (inRange_c m.t.ve 0 5 _) ?_
    rintro _ w119 ⟨rfl, hg120⟩
    have hb121 := low0 hb104 hg120
    refine wpo_assign (v := .bool (inR m.t.ve 0 5)) rfl rfl ?_
    refine wpo_nil ?_
    refine wpf_ret ?_
    refine blk_r ?_
    refine thn_r ?_
    refine ⟨.bool (inR m.t.ve 0 5), res1 rfl rfl, ?_, hb121⟩
    first | (simp [versOk, h110, h116, h118]; done) | (simp [versOk, h110, h116, h118]; omega) | (simp [versOk, h110, h116, h118]; intros; omega)
   ·
    have h122 := of_decide_eq_false h117
    refine wpf_skip ?_
    refine blk_n ?_
    refine thn_n ?_
    refine wpf_seq_region ?_
    refine wpo_fieldAddr (o' := 3) fo_35_2 rfl rfl rfl ?_
    refine wpo_load1 (v := .int .i64 m.t.ve) ot_3 rfl (hN103.blk.cell rfl) rfl ?_
    refine wpo_eql (q := decide (m.t.ve = 0)) rfl rfl rfl rfl ?_
    refine wpo_assign (v := .bool (decide (m.t.ve = 0))) rfl rfl ?_
    refine wpo_nil ?_
    refine wpf_ret ?_
    refine ⟨.bool (decide (m.t.ve = 0)), res1 rfl rfl, ?_, hb104⟩
    first | (simp [versOk, h110, h116, h122]; done) | (simp [versOk, h110, h116, h122]; omega) | (simp [versOk, h110, h116, h122]; intros; omega)
theorem numOk_c [Comp] (m : MTh) (w : World) : CallsR Try.prog 52 #[.agg #[.int .i64 m.t.kind, .int .i64 m.t.lab.s, .int .i64 m.t.lab.v, .int .i64 m.t.ve, .int .i64 m.t.num, .slice m.sa m.t.slots.length m.sc, .slice m.qa m.t.queue.length m.qc, .int .i64 m.t.to]] w (fun v w' => v = .bool (numOk m.t) ∧ w.grownBy w' none) := by
 refine calls_of_wpf (n := 19) Try.func52 rfl Try.ntmps52 rfl ?_
 have hb0 := World.grownBy.refl w none
 refine wpf_seq_region ?_
 refine wpo_box (v := .agg #[.int .i64 m.t.kind, .int .i64 m.t.lab.s, .int .i64 m.t.lab.v, .int .i64 m.t.ve, .int .i64 m.t.num, .slice m.sa m.t.slots.length m.sc, .slice m.qa m.t.queue.length m.qc, .int .i64 m.t.to]) (cs := #[.int .i64 m.t.kind, .int .i64 m.t.lab.s, .int .i64 m.t.lab.v, .int .i64 m.t.ve, .int .i64 m.t.num, .slice m.sa m.t.slots.length m.sc, .slice m.qa m.t.queue.length m.qc, .int .i64 m.t.to]) rfl rfl rfl ?_
 intro B101 w102 hN103
 have hlB101 := hN_ge hN103 hb0
 have hb104 := low0 hb0 hN103.grw
 refine wpo_assign (v := .bool false) rfl rfl ?_
 refine wpo_nil ?_
 refine wpf_seq ?_
 refine wpf_seq_region ?_
 refine wpo_fieldAddr (o' := 0) fo_35_0 rfl rfl rfl ?_
 refine wpo_load1 (v := .int .i64 m.t.kind) ot_3 rfl (hN103.blk.cell rfl) rfl ?_
 refine wpo_nil ?_
 refine wpf_block ?_
 refine wpf_seq ?_
 refine wpf_seq_region ?_
 refine wpo_eql (q := decide (m.t.kind = 1)) rfl rfl rfl rfl ?_
 refine wpo_assign (v := .bool (decide (m.t.kind = 1))) rfl rfl ?_
 refine wpo_nil ?_
 refine wpf_cond rfl (fun h105 => ?_) (fun h105 => ?_)
 ·
  have h106 := of_decide_eq_true h105
  refine wpf_skip ?_
  refine thn_n ?_
  refine wpf_condt rfl h105 ?_
  refine wpf_seq_region ?_
  refine wpo_fieldAddr (o' := 4) fo_35_3 rfl rfl rfl ?_
  refine wpo_load1 (v := .int .i64 m.t.num) ot_3 rfl (hN103.blk.cell rfl) rfl ?_
  refine wpo_call (vs := [.int .i64 m.t.num, .int .i64 0, .int .i64 99]) gf_50 (args_cons rfl (args_cons rfl (args_cons rfl args_nil))) rfl (inRange_c m.t.num 0 99 _) ?_
  rintro _ w107 ⟨rfl, hg108⟩
  have hb109 := low0 hb104 hg108
  refine wpo_assign (v := .bool (inR m.t.num 0 99)) rfl rfl ?_
  refine wpo_nil ?_
  refine wpf_ret ?_
  refine blk_r ?_
  refine thn_r ?_
  refine ⟨.bool (inR m.t.num 0 99), res1 rfl rfl, ?_, hb109⟩
  first | (simp [numOk, h106]; done) | (simp [numOk, h106]; omega) | (simp [numOk, h106]; intros; omega)
 ·
  have h110 := of_decide_eq_false h105
  refine wpf_region ?_
  refine wpo_eql (q := decide (m.t.kind = 5)) rfl rfl rfl rfl ?_
  refine wpo_assign (v := .bool (decide (m.t.kind = 5))) rfl rfl ?_
  refine wpo_nil ?_
  refine thn_n ?_
  refine wpf_cond rfl (fun h111 => ?_) (fun h111 => ?_)
  ·
   have h112 := of_decide_eq_true h111
   refine wpf_seq_region ?_
   refine wpo_fieldAddr (o' := 4) fo_35_3 rfl rfl rfl ?_
   refine wpo_load1 (v := .int .i64 m.t.num) ot_3 rfl (hN103.blk.cell rfl) rfl ?_
   refine wpo_call (vs := [.int .i64 m.t.num, .int .i64 0, .int .i64 99]) gf_50 (args_cons rfl (args_cons rfl (args_cons rfl args_nil))) rfl (inRange_c m.t.num 0 99 _) ?_
   rintro _ w113 ⟨rfl, hg114⟩
   have hb115 := low0 hb104 hg114
   refine wpo_assign (v := .bool (inR m.t.num 0 99)) rfl rfl ?_
   refine wpo_nil ?_
   refine wpf_ret ?_
   refine blk_r ?_
   refine thn_r ?_
   refine ⟨.bool (inR m.t.num 0 99), res1 rfl rfl, ?_, hb115⟩
   first | (simp [numOk, h110, h112]; done) | (simp [numOk, h110, h112]; omega) | (simp [numOk, h110, h112]; intros; omega)
  ·
   have h116 := of_decide_eq_false h111
   refine wpf_seq_region ?_
   refine wpo_eql (q := decide (m.t.kind = 3)) rfl rfl rfl rfl ?_
   refine wpo_assign (v := .bool (decide (m.t.kind = 3))) rfl rfl ?_
   refine wpo_nil ?_
   refine wpf_cond rfl (fun h117 => ?_) (fun h117 => ?_)
   ·
    have h118 := of_decide_eq_true h117
    refine wpf_seq_region ?_
    refine wpo_fieldAddr (o' := 4) fo_35_3 rfl rfl rfl ?_
    refine wpo_load1 (v := .int .i64 m.t.num) ot_3 rfl (hN103.blk.cell rfl) rfl ?_
    refine wpo_call (vs := [.int .i64 m.t.num, .int .i64 (-4), .int .i64 99]) gf_50 (args_cons rfl (args_cons rfl (args_cons rfl args_nil))) rfl (inRange_c m.t.num (-4) 99 _) ?_
    rintro _ w119 ⟨rfl, hg120⟩
    have hb121 := low0 hb104 hg120
    refine wpo_assign (v := .bool (inR m.t.num (-4) 99)) rfl rfl ?_
    refine wpo_nil ?_
    refine wpf_ret ?_
    refine blk_r ?_
    refine thn_r ?_
    refine ⟨.bool (inR m.t.num (-4) 99), res1 rfl rfl, ?_, hb121⟩
    first | (simp [numOk, h110, h116, h118]; done) | (simp [numOk, h110, h116, h118]; omega) | (simp [numOk, h110, h116, h118]; intros; omega)
   ·
    have h122 := of_decide_eq_false h117
    refine wpf_skip ?_
    refine blk_n ?_
    refine thn_n ?_
    refine wpf_seq_region ?_
    refine wpo_fieldAddr (o' := 4) fo_35_3 rfl rfl rfl ?_
    refine wpo_load1 (v := .int .i64 m.t.num) ot_3 rfl (hN103.blk.cell rfl) rfl ?_
    refine wpo_eql (q := decide (m.t.num = 0)) rfl rfl rfl rfl ?_
    refine wpo_assign (v := .bool (decide (m.t.num = 0))) rfl rfl ?_
    refine wpo_nil ?_
    refine wpf_ret ?_
    refine ⟨.bool (decide (m.t.num = 0)), res1 rfl rfl, ?_, hb104⟩
    first | (simp [numOk, h110, h116, h122]; done) | (simp [numOk, h110, h116, h122]; omega) | (simp [numOk, h110, h116, h122]; intros; omega)
theorem targetOk_c [Comp] (m : MTh) (w : World) : CallsR Try.prog 55 #[.agg #[.int .i64 m.t.kind, .int .i64 m.t.lab.s, .int .i64 m.t.lab.v, .int .i64 m.t.ve, .int .i64 m.t.num, .slice m.sa m.t.slots.length m.sc, .slice m.qa m.t.queue.length m.qc, .int .i64 m.t.to]] w (fun v w' => v = .bool (targetOk m.t) ∧ w.grownBy w' none) := by
 refine calls_of_wpf (n := 12) Try.func55 rfl Try.ntmps55 rfl ?_
 have hb0 := World.grownBy.refl w none
 refine wpf_seq_region ?_
 refine wpo_box (v := .agg #[.int .i64 m.t.kind, .int .i64 m.t.lab.s, .int .i64 m.t.lab.v, .int .i64 m.t.ve, .int .i64 m.t.num, .slice m.sa m.t.slots.length m.sc, .slice m.qa m.t.queue.length m.qc, .int .i64 m.t.to]) (cs := #[.int .i64 m.t.kind, .int .i64 m.t.lab.s, .int .i64 m.t.lab.v, .int .i64 m.t.ve, .int .i64 m.t.num, .slice m.sa m.t.slots.length m.sc, .slice m.qa m.t.queue.length m.qc, .int .i64 m.t.to]) rfl rfl rfl ?_
 intro B101 w102 hN103
 have hlB101 := hN_ge hN103 hb0
 have hb104 := low0 hb0 hN103.grw
 refine wpo_assign (v := .bool false) rfl rfl ?_
 refine wpo_nil ?_
 refine wpf_seq ?_
 refine wpf_seq_region ?_
 refine wpo_fieldAddr (o' := 0) fo_35_0 rfl rfl rfl ?_
 refine wpo_load1 (v := .int .i64 m.t.kind) ot_3 rfl (hN103.blk.cell rfl) rfl ?_
 refine wpo_eql (q := decide (m.t.kind = 5)) rfl rfl rfl rfl ?_
 refine wpo_nil ?_
 refine wpf_cond rfl (fun h105 => ?_) (fun h105 => ?_)
 ·
  have h106 := of_decide_eq_true h105
  refine wpf_seq_region ?_
  refine wpo_fieldAddr (o' := 7) fo_35_6 rfl rfl rfl ?_
  refine wpo_load1 (v := .int .i64 m.t.to) ot_3 rfl (hN103.blk.cell rfl) rfl ?_
  refine wpo_call (vs := [.int .i64 m.t.to, .int .i64 1, .int .i64 8]) gf_50 (args_cons rfl (args_cons rfl (args_cons rfl args_nil))) rfl (inRange_c m.t.to 1 8 _) ?_
  rintro _ w107 ⟨rfl, hg108⟩
  have hb109 := low0 hb104 hg108
  refine wpo_assign (v := .bool (inR m.t.to 1 8)) rfl rfl ?_
  refine wpo_nil ?_
  refine wpf_ret ?_
  refine thn_r ?_
  refine ⟨.bool (inR m.t.to 1 8), res1 rfl rfl, ?_, hb109⟩
  first | (simp [targetOk, h106]; done) | (simp [targetOk, h106]; omega) | (simp [targetOk, h106]; intros; omega)
 ·
  have h110 := of_decide_eq_false h105
  refine wpf_skip ?_
  refine thn_n ?_
  refine wpf_seq_region ?_
  refine wpo_fieldAddr (o' := 7) fo_35_6 rfl rfl rfl ?_
  refine wpo_load1 (v := .int .i64 m.t.to) ot_3 rfl (hN103.blk.cell rfl) rfl ?_
  refine wpo_eql (q := decide (m.t.to = 0)) rfl rfl rfl rfl ?_
  refine wpo_assign (v := .bool (decide (m.t.to = 0))) rfl rfl ?_
  refine wpo_nil ?_
  refine wpf_ret ?_
  refine ⟨.bool (decide (m.t.to = 0)), res1 rfl rfl, ?_, hb104⟩
  first | (simp [targetOk, h110]; done) | (simp [targetOk, h110]; omega) | (simp [targetOk, h110]; intros; omega)
theorem queueOk_c [Comp] (m : MTh) (w : World) (hs : SlAt w m.sa 5 (m.t.slots.map Rt.cells)) (hq : SlAt w m.qa 1 (m.t.queue.map icell)) (hsl : m.t.slots.length ≤ 9223372036854775806) (hql : m.t.queue.length ≤ 9223372036854775806) : CallsR Try.prog 54 #[.agg #[.int .i64 m.t.kind, .int .i64 m.t.lab.s, .int .i64 m.t.lab.v, .int .i64 m.t.ve, .int .i64 m.t.num, .slice m.sa m.t.slots.length m.sc, .slice m.qa m.t.queue.length m.qc, .int .i64 m.t.to]] w (fun v w' => v = .bool (queueOk m.t) ∧ w.grownBy w' none) := by
 refine calls_of_wpf (n := 27) Try.func54 rfl Try.ntmps54 rfl ?_
 have hb0 := World.grownBy.refl w none
 refine wpf_seq_region ?_
 refine wpo_box (v := .agg #[.int .i64 m.t.kind, .int .i64 m.t.lab.s, .int .i64 m.t.lab.v, .int .i64 m.t.ve, .int .i64 m.t.num, .slice m.sa m.t.slots.length m.sc, .slice m.qa m.t.queue.length m.qc, .int .i64 m.t.to]) (cs := #[.int .i64 m.t.kind, .int .i64 m.t.lab.s, .int .i64 m.t.lab.v, .int .i64 m.t.ve, .int .i64 m.t.num, .slice m.sa m.t.slots.length m.sc, .slice m.qa m.t.queue.length m.qc, .int .i64 m.t.to]) rfl rfl rfl ?_
 intro B101 w102 hN103
 have hlB101 := hN_ge hN103 hb0
 have hb104 := low0 hb0 hN103.grw
 refine wpo_assign (v := .bool false) rfl rfl ?_
 refine wpo_nil ?_
 refine wpf_seq ?_
 refine wpf_seq_region ?_
 refine wpo_fieldAddr (o' := 0) fo_35_0 rfl rfl rfl ?_
 refine wpo_load1 (v := .int .i64 m.t.kind) ot_3 rfl (hN103.blk.cell rfl) rfl ?_
 refine wpo_neq (q := !(decide (m.t.kind = 4))) rfl rfl rfl rfl ?_
 refine wpo_nil ?_
 refine wpf_cond rfl (fun h105 => ?_) (fun h105 => ?_)
 ·
  have h106 := nt_t h105
  have h107 := of_decide_eq_false h106
  refine wpf_seq_region ?_
  refine wpo_fieldAddr (o' := 6) fo_35_5 rfl rfl rfl ?_
  refine wpo_load1 (v := .slice m.qa m.t.queue.length m.qc) ot_33 rfl (hN103.blk.cell rfl) rfl ?_
  refine wpo_len (by kernel_rfl) rfl rfl ?_
  refine wpo_eql (q := decide ((m.t.queue.length : Int) = 0)) rfl rfl rfl rfl ?_
  refine wpo_assign (v := .bool (decide ((m.t.queue.length : Int) = 0))) rfl rfl ?_
  refine wpo_nil ?_
  refine wpf_ret ?_
  refine thn_r ?_
  refine ⟨.bool (decide ((m.t.queue.length : Int) = 0)), res1 rfl rfl, ?_, hb104⟩
  first | (simp [queueOk, h107]; done) | (simp [queueOk, h107]; omega) | (simp [queueOk, h107]; intros; omega)
 ·
  have h108 := nt_f h105
  have h109 := of_decide_eq_true h108
  refine wpf_skip ?_
  refine thn_n ?_
  refine wpf_seq ?_
  refine wpf_seq_region ?_
  refine wpo_fieldAddr (o' := 6) fo_35_5 rfl rfl rfl ?_
  refine wpo_load1 (v := .slice m.qa m.t.queue.length m.qc) ot_33 rfl (hN103.blk.cell rfl) rfl ?_
  refine wpo_len (by kernel_rfl) rfl rfl ?_
  refine wpo_gtr (q := decide (3 < (m.t.queue.length : Int))) rfl rfl rfl rfl ?_
  refine wpo_nil ?_
  refine wpf_cond rfl (fun h110 => ?_) (fun h110 => ?_)
  ·
   have h111 := of_decide_eq_true h110
   refine wpf_seq_region ?_
   refine wpo_assign (v := .bool false) rfl rfl ?_
   refine wpo_nil ?_
   refine wpf_ret ?_
   refine thn_r ?_
   refine ⟨.bool false, res1 rfl rfl, ?_, hb104⟩
   first | (simp [queueOk, h109, h111]; done) | (simp [queueOk, h109, h111]; omega) | (simp [queueOk, h109, h111]; intros; omega)
  ·
   have h112 := of_decide_eq_false h110
   refine wpf_skip ?_
   refine thn_n ?_
   refine wpf_seq ?_
   refine wpf_seq_region ?_
   refine wpo_fieldAddr (o' := 6) fo_35_5 rfl rfl rfl ?_
   refine wpo_load1 (v := .slice m.qa m.t.queue.length m.qc) ot_33 rfl (hN103.blk.cell rfl) rfl ?_
   refine wpo_len (by kernel_rfl) rfl rfl ?_
   refine wpo_move (v := .int .i64 0) rfl rfl ?_
   refine wpo_nil ?_
   refine wpf_block ?_
   refine wpf_loopN (fun mm f' w' => ∃ (k : Nat), mm = m.t.queue.length - k ∧ k ≤ m.t.queue.length ∧ ((m.t.queue.take k).all numQ) = true ∧ f' 19 = .int .i64 (k : Int) ∧ f' 17 = .slice m.qa m.t.queue.length m.qc ∧ f' 18 = .int .i64 (m.t.queue.length : Int) ∧ w.grownBy w' none) (m.t.queue.length - 0) ⟨0, rfl, (Nat.zero_le _), rfl, rfl, rfl, rfl, hb104⟩ ?_
   rintro mm f113 w114 ⟨k, hm116, hk, ha, e117, e118, e119, hb115⟩
   refine wpf_seq_region ?_
   refine wpo_lss (q := decide ((k : Int) < (m.t.queue.length : Int))) e117 e119 rfl rfl ?_
   refine wpo_nil ?_
   refine wpf_seq ?_
   refine wpf_cond rfl (fun h120 => ?_) (fun h120 => ?_)
   ·
    have h121 := of_decide_eq_true h120
    refine wpf_skip ?_
    refine thn_n ?_
    refine wpf_seq ?_
    refine wpf_block ?_
    refine wpf_seq_region ?_
    obtain ⟨x122, hx123⟩ := get_lt (l := m.t.queue) (i := k) (by omega)
    obtain ⟨b124, q125, o126, ha127, ho128, hr129⟩ := SlAt.at hq (map_get hx123)
    refine wpo_indexE es_33 e118 e117 ha127 ho128 (by omega) (by omega) rfl ?_
    refine wpo_load1 (v := .int .i64 x122) ot_3 rfl ((range_low hr129 hb115) 0 _ rfl) rfl ?_
    refine wpo_assign (v := .int .i64 x122) rfl rfl ?_
    refine wpo_nil ?_
    refine wpf_seq_region ?_
    refine wpo_move (v := .int .i64 x122) rfl rfl ?_
    refine wpo_call (vs := [.int .i64 x122, .int .i64 0, .int .i64 99]) gf_50 (args_cons rfl (args_cons rfl (args_cons rfl args_nil))) rfl (inRange_c x122 0 99 _) ?_
    rintro _ w130 ⟨rfl, hg131⟩
    have hb132 := low0 hb115 hg131
    refine wpo_not (b' := !inR x122 0 99) rfl rfl rfl ?_
    refine wpo_nil ?_
    refine wpf_cond rfl (fun h133 => ?_) (fun h133 => ?_)
    ·
     have h134 := nt_t h133
     refine wpf_seq_region ?_
     refine wpo_assign (v := .bool false) rfl rfl ?_
     refine wpo_nil ?_
     refine wpf_ret ?_
     refine blk_r ?_
     refine thn_r ?_
     refine thn_r ?_
     refine blk_r ?_
     refine thn_r ?_
     refine ⟨.bool false, res1 rfl rfl, ?_, hb132⟩
     simp [queueOk, h109, h112, h121, all_false_of (p := numQ) hx123 h134]
    ·
     have h135 := nt_f h133
     refine wpf_skip ?_
     refine blk_n ?_
     refine thn_n ?_
     refine wpf_region ?_
     refine wpo_add (c := (k : Int) + 1) e117 rfl (by omega) (by omega) (by omega) rfl ?_
     refine wpo_move (v := .int .i64 ((k : Int) + 1)) rfl rfl ?_
     refine wpo_nil ?_
     refine thn_n ?_
     exact ⟨m.t.queue.length - (k + 1), by omega, (k + 1), rfl, (by omega), (take_all_succ (p := numQ) ha hx123 h135), rfl, e118, e119, hb132⟩
   ·
    have h136 := of_decide_eq_false h120
    refine wpf_exit ?_
    refine thn_e ?_
    refine thn_e ?_
    refine blk_e ?_
    refine thn_n ?_
    refine wpf_seq_region ?_
    refine wpo_assign (v := .bool true) rfl rfl ?_
    refine wpo_nil ?_
    refine wpf_ret ?_
    refine ⟨.bool true, res1 rfl rfl, ?_, hb115⟩
    simp [queueOk, h109, h112, h136, all_of_take (p := numQ) ha (by omega)]; omega
theorem slotsOk_c [Comp] (m : MTh) (w : World) (hs : SlAt w m.sa 5 (m.t.slots.map Rt.cells)) (hq : SlAt w m.qa 1 (m.t.queue.map icell)) (hsl : m.t.slots.length ≤ 9223372036854775806) (hql : m.t.queue.length ≤ 9223372036854775806) : CallsR Try.prog 53 #[.agg #[.int .i64 m.t.kind, .int .i64 m.t.lab.s, .int .i64 m.t.lab.v, .int .i64 m.t.ve, .int .i64 m.t.num, .slice m.sa m.t.slots.length m.sc, .slice m.qa m.t.queue.length m.qc, .int .i64 m.t.to]] w (fun v w' => v = .bool (slotsOk m.t) ∧ w.grownBy w' none) := by
 refine calls_of_wpf (n := 32) Try.func53 rfl Try.ntmps53 rfl ?_
 have hb0 := World.grownBy.refl w none
 refine wpf_seq_region ?_
 refine wpo_box (v := .agg #[.int .i64 m.t.kind, .int .i64 m.t.lab.s, .int .i64 m.t.lab.v, .int .i64 m.t.ve, .int .i64 m.t.num, .slice m.sa m.t.slots.length m.sc, .slice m.qa m.t.queue.length m.qc, .int .i64 m.t.to]) (cs := #[.int .i64 m.t.kind, .int .i64 m.t.lab.s, .int .i64 m.t.lab.v, .int .i64 m.t.ve, .int .i64 m.t.num, .slice m.sa m.t.slots.length m.sc, .slice m.qa m.t.queue.length m.qc, .int .i64 m.t.to]) rfl rfl rfl ?_
 intro B101 w102 hN103
 have hlB101 := hN_ge hN103 hb0
 have hb104 := low0 hb0 hN103.grw
 refine wpo_assign (v := .bool false) rfl rfl ?_
 refine wpo_nil ?_
 refine wpf_seq ?_
 refine wpf_seq_region_mid (fun f' w' => (f' 1 = .pointer (some ⟨B101, 0, none⟩) ∧ f' 2 = .bool false ∧ f' 12 = .bool ((!(decide (m.t.kind = 2))) && (!(decide (m.t.kind = 3))))) ∧ w102 = w') ?_ ?_
 ·
  refine wpo_fieldAddr (o' := 0) fo_35_0 rfl rfl rfl ?_
  refine wpo_load1 (v := .int .i64 m.t.kind) ot_3 rfl (hN103.blk.cell rfl) rfl ?_
  refine wpo_neq (q := !(decide (m.t.kind = 2))) rfl rfl rfl rfl ?_
  refine wpo_move (v := .bool (!(decide (m.t.kind = 2)))) rfl rfl ?_
  rcases bcases (!(decide (m.t.kind = 2))) with h105 | h105
  ·
   have h106 := nt_t h105
   have h107 := of_decide_eq_false h106
   refine wpo_run rfl rfl rfl h105 ?_
   refine wpo_fieldAddr (o' := 0) fo_35_0 rfl rfl rfl ?_
   refine wpo_run rfl rfl rfl h105 ?_
   refine wpo_load1 (v := .int .i64 m.t.kind) ot_3 rfl (hN103.blk.cell rfl) rfl ?_
   refine wpo_run rfl rfl rfl h105 ?_
   refine wpo_neq (q := !(decide (m.t.kind = 3))) rfl rfl rfl rfl ?_
   refine wpo_pickt (v := .bool (!(decide (m.t.kind = 3)))) rfl h105 rfl rfl ?_
   exact wpo_nil ⟨⟨rfl, rfl, (congrArg Value.bool (by first | (simp only [h105, h106, b0, b1, b2, b3, b4, b5, b6, b7, b8, b9]; done) | simp [h105, h106]))⟩, rfl⟩
  ·
   have h108 := nt_f h105
   have h109 := of_decide_eq_true h108
   iterate 3 refine wpo_pass rfl rfl rfl h105 rfl ?_
   refine wpo_pickf (v := .bool false) rfl h105 rfl rfl ?_
   exact wpo_nil ⟨⟨rfl, rfl, (congrArg Value.bool (by first | (simp only [h105, h108, b0, b1, b2, b3, b4, b5, b6, b7, b8, b9]; done) | simp [h105, h108]))⟩, rfl⟩
 ·
  rintro f110 w111 ⟨⟨e112, e113, e114⟩, rfl⟩
  refine wpf_cond e114 (fun h115 => ?_) (fun h115 => ?_)
  ·
   have h116 := and_l h115
   have h117 := nt_t h116
   have h118 := of_decide_eq_false h117
   have h119 := and_r h115
   have h120 := nt_t h119
   have h121 := of_decide_eq_false h120
   refine wpf_seq_region ?_
   refine wpo_fieldAddr (o' := 5) fo_35_4 e112 rfl rfl ?_
   refine wpo_load1 (v := .slice m.sa m.t.slots.length m.sc) ot_32 rfl (hN103.blk.cell rfl) rfl ?_
   refine wpo_len (by kernel_rfl) rfl rfl ?_
   refine wpo_eql (q := decide ((m.t.slots.length : Int) = 0)) rfl rfl rfl rfl ?_
   refine wpo_assign (v := .bool (decide ((m.t.slots.length : Int) = 0))) rfl rfl ?_
   refine wpo_nil ?_
   refine wpf_ret ?_
   refine thn_r ?_
   refine ⟨.bool (decide ((m.t.slots.length : Int) = 0)), res1 rfl rfl, ?_, hb104⟩
   rw [slotsOk_n h115]
  ·
   refine wpf_skip ?_
   refine thn_n ?_
   refine wpf_seq ?_
   refine wpf_seq_region ?_
   refine wpo_fieldAddr (o' := 5) fo_35_4 e112 rfl rfl ?_
   refine wpo_load1 (v := .slice m.sa m.t.slots.length m.sc) ot_32 rfl (hN103.blk.cell rfl) rfl ?_
   refine wpo_len (by kernel_rfl) rfl rfl ?_
   refine wpo_neq (q := !(decide ((m.t.slots.length : Int) = 4))) rfl rfl rfl rfl ?_
   refine wpo_nil ?_
   refine wpf_cond rfl (fun h122 => ?_) (fun h122 => ?_)
   ·
    have h123 := nt_t h122
    have h124 := of_decide_eq_false h123
    refine wpf_seq_region ?_
    refine wpo_assign (v := .bool false) rfl rfl ?_
    refine wpo_nil ?_
    refine wpf_ret ?_
    refine thn_r ?_
    refine ⟨.bool false, res1 rfl rfl, ?_, hb104⟩
    rw [slotsOk_y h115]
    rw [decide_eq_false (by omega)]; rfl
   ·
    have h125 := nt_f h122
    have h126 := of_decide_eq_true h125
    refine wpf_skip ?_
    refine thn_n ?_
    refine wpf_seq ?_
    refine wpf_seq_region ?_
    refine wpo_fieldAddr (o' := 5) fo_35_4 e112 rfl rfl ?_
    refine wpo_load1 (v := .slice m.sa m.t.slots.length m.sc) ot_32 rfl (hN103.blk.cell rfl) rfl ?_
    obtain ⟨b127, q128, ha129, hr130⟩ := SlAt.all wide_rt (by omega) (SlAt.low hs hb104) (by omega)
    refine wpo_s2a at_77 rfl ha129 (by omega) rfl ?_
    refine wpo_loadn (vs := m.t.slots.flatMap Rt.cells) rt_77 rfl (by rw [rows_len wide_rt]; omega) hr130 rfl ?_
    refine wpo_move (v := .int .i64 0) rfl rfl ?_
    refine wpo_nil ?_
    refine wpf_block ?_
    refine wpf_loopN (fun mm f' w' => ∃ (k : Nat), mm = m.t.slots.length - k ∧ k ≤ m.t.slots.length ∧ ((m.t.slots.take k).all rightOk) = true ∧ f' 25 = .int .i64 (k : Int) ∧ f' 24 = .agg (m.t.slots.flatMap Rt.cells).toArray ∧ w.grownBy w' none) (m.t.slots.length - 0) ⟨0, rfl, (Nat.zero_le _), rfl, rfl, rfl, hb104⟩ ?_
    rintro mm f131 w132 ⟨k, hm134, hk, ha, e135, e136, hb133⟩
    refine wpf_seq_region ?_
    refine wpo_lss (q := decide ((k : Int) < 4)) e135 rfl rfl rfl ?_
    refine wpo_nil ?_
    refine wpf_seq ?_
    refine wpf_cond rfl (fun h137 => ?_) (fun h137 => ?_)
    ·
     have h138 := of_decide_eq_true h137
     refine wpf_skip ?_
     refine thn_n ?_
     refine wpf_seq ?_
     refine wpf_block ?_
     refine wpf_seq_region ?_
     obtain ⟨x139, hx140⟩ := get_lt (l := m.t.slots) (i := k) (by omega)
     refine wpo_indexArr (g := Rt.cells) (z := x139) at_77 rt_74 wide_rt e136 e135 (by omega) (by omega) hx140 rfl ?_
     refine wpo_alloc (cs := #[.int .i64 0, .int .i64 0, .bool false, .bool false, .bool false]) zt_74 rfl rfl ?_
     intro B141 w142 hN143
     have hlB141 := hN_ge hN143 hb133
     have hb144 := low0 hb133 hN143.grw
     refine wpo_storen (vs := [.int .i64 x139.th, .int .i64 x139.ve, .bool x139.rd, .bool x139.wr, .bool x139.wk]) (cs' := #[.int .i64 x139.th, .int .i64 x139.ve, .bool x139.rd, .bool x139.wr, .bool x139.wk]) rt_74 rfl rfl rfl (by simp [Value.oneCell']) hN143.blk (Nat.le_of_ble_eq_true rfl) rfl ?_
     intro w145 hS146
     have hb147 := low1 hb144 hS146.grw (by omega)
     refine wpo_nil ?_
     refine wpf_seq_region ?_
     refine wpo_loadn (vs := [.int .i64 x139.th, .int .i64 x139.ve, .bool x139.rd, .bool x139.wr, .bool x139.wk]) rt_74 rfl rfl (hS146.blk.rangeL 0 5 rfl) rfl ?_
     refine wpo_call (vs := [.agg #[.int .i64 x139.th, .int .i64 x139.ve, .bool x139.rd, .bool x139.wr, .bool x139.wk]]) gf_97 (args_cons rfl args_nil) rfl (RightOk_c x139 _) ?_
     rintro _ w148 ⟨rfl, hg149⟩
     have hb150 := low0 hb147 hg149
     refine wpo_not (b' := !rightOk x139) rfl rfl rfl ?_
     refine wpo_nil ?_
     refine wpf_cond rfl (fun h151 => ?_) (fun h151 => ?_)
     ·
      have h152 := nt_t h151
      refine wpf_seq_region ?_
      refine wpo_assign (v := .bool false) rfl rfl ?_
      refine wpo_nil ?_
      refine wpf_ret ?_
      refine blk_r ?_
      refine thn_r ?_
      refine thn_r ?_
      refine blk_r ?_
      refine thn_r ?_
      refine ⟨.bool false, res1 rfl rfl, ?_, hb150⟩
      rw [slotsOk_y h115]
      simp [all_false_of (p := rightOk) hx140 h152]
     ·
      have h153 := nt_f h151
      refine wpf_skip ?_
      refine blk_n ?_
      refine thn_n ?_
      refine wpf_region ?_
      refine wpo_add (c := (k : Int) + 1) e135 rfl (by omega) (by omega) (by omega) rfl ?_
      refine wpo_move (v := .int .i64 ((k : Int) + 1)) rfl rfl ?_
      refine wpo_nil ?_
      refine thn_n ?_
      exact ⟨m.t.slots.length - (k + 1), by omega, (k + 1), rfl, (by omega), (take_all_succ (p := rightOk) ha hx140 h153), rfl, e136, hb150⟩
    ·
     have h154 := of_decide_eq_false h137
     refine wpf_exit ?_
     refine thn_e ?_
     refine thn_e ?_
     refine blk_e ?_
     refine thn_n ?_
     refine wpf_seq_region ?_
     refine wpo_assign (v := .bool true) rfl rfl ?_
     refine wpo_nil ?_
     refine wpf_ret ?_
     refine ⟨.bool true, res1 rfl rfl, ?_, hb133⟩
     rw [slotsOk_y h115]
     rw [all_of_take (p := rightOk) ha (by omega), decide_eq_true (by omega)]; rfl
theorem ThingOk_c [Comp] (m : MTh) (w : World) (hs : SlAt w m.sa 5 (m.t.slots.map Rt.cells)) (hq : SlAt w m.qa 1 (m.t.queue.map icell)) (hsl : m.t.slots.length ≤ 9223372036854775806) (hql : m.t.queue.length ≤ 9223372036854775806) : CallsR Try.prog 20 #[.agg #[.int .i64 m.t.kind, .int .i64 m.t.lab.s, .int .i64 m.t.lab.v, .int .i64 m.t.ve, .int .i64 m.t.num, .slice m.sa m.t.slots.length m.sc, .slice m.qa m.t.queue.length m.qc, .int .i64 m.t.to]] w (fun v w' => v = .bool (thingOk m.t) ∧ w.grownBy w' none) := by
 refine calls_of_wpf (n := 31) Try.func20 rfl Try.ntmps20 rfl ?_
 have hb0 := World.grownBy.refl w none
 refine wpf_seq_region ?_
 refine wpo_box (v := .agg #[.int .i64 m.t.kind, .int .i64 m.t.lab.s, .int .i64 m.t.lab.v, .int .i64 m.t.ve, .int .i64 m.t.num, .slice m.sa m.t.slots.length m.sc, .slice m.qa m.t.queue.length m.qc, .int .i64 m.t.to]) (cs := #[.int .i64 m.t.kind, .int .i64 m.t.lab.s, .int .i64 m.t.lab.v, .int .i64 m.t.ve, .int .i64 m.t.num, .slice m.sa m.t.slots.length m.sc, .slice m.qa m.t.queue.length m.qc, .int .i64 m.t.to]) rfl rfl rfl ?_
 intro B101 w102 hN103
 have hlB101 := hN_ge hN103 hb0
 have hb104 := low0 hb0 hN103.grw
 refine wpo_assign (v := .bool false) rfl rfl ?_
 refine wpo_nil ?_
 refine wpf_seq_region_mid (fun f' w' => (f' 2 = .bool ((((((inR m.t.kind 1 5 && labelOk m.t.lab) && versOk m.t) && numOk m.t) && slotsOk m.t) && queueOk m.t) && targetOk m.t)) ∧ w102.grownBy w' none) ?_ ?_
 ·
  refine wpo_fieldAddr (o' := 0) fo_35_0 rfl rfl rfl ?_
  refine wpo_load1 (v := .int .i64 m.t.kind) ot_3 rfl (hN103.blk.cell rfl) rfl ?_
  refine wpo_call (vs := [.int .i64 m.t.kind, .int .i64 1, .int .i64 5]) gf_50 (args_cons rfl (args_cons rfl (args_cons rfl args_nil))) rfl (inRange_c m.t.kind 1 5 _) ?_
  rintro _ w135 ⟨rfl, hg136⟩
  have hb137 := low0 hb104 hg136
  refine wpo_move (v := .bool (inR m.t.kind 1 5)) rfl rfl ?_
  rcases bcases (inR m.t.kind 1 5) with h138 | h138
  ·
   refine wpo_run rfl rfl rfl h138 ?_
   refine wpo_fieldAddr (o' := 1) fo_35_1 rfl rfl rfl ?_
   refine wpo_run rfl rfl rfl h138 ?_
   have k139 := (hN103.blk.grown0 hg136)
   refine wpo_loadn (vs := [.int .i64 m.t.lab.s, .int .i64 m.t.lab.v]) rt_25 rfl rfl (k139.rangeL 1 2 rfl) rfl ?_
   refine wpo_run rfl rfl rfl h138 ?_
   refine wpo_call (vs := [.agg #[.int .i64 m.t.lab.s, .int .i64 m.t.lab.v]]) gf_38 (args_cons rfl args_nil) rfl (LabelOk_c m.t.lab _) ?_
   rintro _ w140 ⟨rfl, hg141⟩
   have hb142 := low0 hb137 hg141
   refine wpo_pickt (v := .bool (labelOk m.t.lab)) rfl h138 rfl rfl ?_
   refine wpo_move (v := .bool (labelOk m.t.lab)) rfl rfl ?_
   rcases bcases (labelOk m.t.lab) with h143 | h143
   ·
    refine wpo_run rfl rfl rfl h143 ?_
    have k144 := (k139.grown0 hg141)
    refine wpo_loadn (vs := [.int .i64 m.t.kind, .int .i64 m.t.lab.s, .int .i64 m.t.lab.v, .int .i64 m.t.ve, .int .i64 m.t.num, .slice m.sa m.t.slots.length m.sc, .slice m.qa m.t.queue.length m.qc, .int .i64 m.t.to]) rt_35 rfl rfl (k144.rangeL 0 8 rfl) rfl ?_
    refine wpo_run rfl rfl rfl h143 ?_
    refine wpo_call (vs := [.agg #[.int .i64 m.t.kind, .int .i64 m.t.lab.s, .int .i64 m.t.lab.v, .int .i64 m.t.ve, .int .i64 m.t.num, .slice m.sa m.t.slots.length m.sc, .slice m.qa m.t.queue.length m.qc, .int .i64 m.t.to]]) gf_51 (args_cons rfl args_nil) rfl (versOk_c m _) ?_
    rintro _ w145 ⟨rfl, hg146⟩
    have hb147 := low0 hb142 hg146
    refine wpo_pickt (v := .bool (versOk m.t)) rfl h143 rfl rfl ?_
    refine wpo_move (v := .bool (versOk m.t)) rfl rfl ?_
    rcases bcases (versOk m.t) with h148 | h148
    ·
     refine wpo_run rfl rfl rfl h148 ?_
     have k149 := (k144.grown0 hg146)
     refine wpo_loadn (vs := [.int .i64 m.t.kind, .int .i64 m.t.lab.s, .int .i64 m.t.lab.v, .int .i64 m.t.ve, .int .i64 m.t.num, .slice m.sa m.t.slots.length m.sc, .slice m.qa m.t.queue.length m.qc, .int .i64 m.t.to]) rt_35 rfl rfl (k149.rangeL 0 8 rfl) rfl ?_
     refine wpo_run rfl rfl rfl h148 ?_
     refine wpo_call (vs := [.agg #[.int .i64 m.t.kind, .int .i64 m.t.lab.s, .int .i64 m.t.lab.v, .int .i64 m.t.ve, .int .i64 m.t.num, .slice m.sa m.t.slots.length m.sc, .slice m.qa m.t.queue.length m.qc, .int .i64 m.t.to]]) gf_52 (args_cons rfl args_nil) rfl (numOk_c m _) ?_
     rintro _ w150 ⟨rfl, hg151⟩
     have hb152 := low0 hb147 hg151
     refine wpo_pickt (v := .bool (numOk m.t)) rfl h148 rfl rfl ?_
     refine wpo_move (v := .bool (numOk m.t)) rfl rfl ?_
     rcases bcases (numOk m.t) with h153 | h153
     ·
      refine wpo_run rfl rfl rfl h153 ?_
      have k154 := (k149.grown0 hg151)
      refine wpo_loadn (vs := [.int .i64 m.t.kind, .int .i64 m.t.lab.s, .int .i64 m.t.lab.v, .int .i64 m.t.ve, .int .i64 m.t.num, .slice m.sa m.t.slots.length m.sc, .slice m.qa m.t.queue.length m.qc, .int .i64 m.t.to]) rt_35 rfl rfl (k154.rangeL 0 8 rfl) rfl ?_
      refine wpo_run rfl rfl rfl h153 ?_
      refine wpo_call (vs := [.agg #[.int .i64 m.t.kind, .int .i64 m.t.lab.s, .int .i64 m.t.lab.v, .int .i64 m.t.ve, .int .i64 m.t.num, .slice m.sa m.t.slots.length m.sc, .slice m.qa m.t.queue.length m.qc, .int .i64 m.t.to]]) gf_53 (args_cons rfl args_nil) rfl (slotsOk_c m _ (SlAt.low hs hb152) (SlAt.low hq hb152) (by first | omega | exact Nat.le_of_ble_eq_true rfl | (simp only [List.length_nil, List.length_cons, List.length_append, List.length_replicate]; omega)) (by first | omega | exact Nat.le_of_ble_eq_true rfl | (simp only [List.length_nil, List.length_cons, List.length_append, List.length_replicate]; omega))) ?_
      rintro _ w155 ⟨rfl, hg156⟩
      have hb157 := low0 hb152 hg156
      refine wpo_pickt (v := .bool (slotsOk m.t)) rfl h153 rfl rfl ?_
      refine wpo_move (v := .bool (slotsOk m.t)) rfl rfl ?_
      rcases bcases (slotsOk m.t) with h158 | h158
      ·
       refine wpo_run rfl rfl rfl h158 ?_
       have k159 := (k154.grown0 hg156)
       refine wpo_loadn (vs := [.int .i64 m.t.kind, .int .i64 m.t.lab.s, .int .i64 m.t.lab.v, .int .i64 m.t.ve, .int .i64 m.t.num, .slice m.sa m.t.slots.length m.sc, .slice m.qa m.t.queue.length m.qc, .int .i64 m.t.to]) rt_35 rfl rfl (k159.rangeL 0 8 rfl) rfl ?_
       refine wpo_run rfl rfl rfl h158 ?_
       refine wpo_call (vs := [.agg #[.int .i64 m.t.kind, .int .i64 m.t.lab.s, .int .i64 m.t.lab.v, .int .i64 m.t.ve, .int .i64 m.t.num, .slice m.sa m.t.slots.length m.sc, .slice m.qa m.t.queue.length m.qc, .int .i64 m.t.to]]) gf_54 (args_cons rfl args_nil) rfl (queueOk_c m _ (SlAt.low hs hb157) (SlAt.low hq hb157) (by first | omega | exact Nat.le_of_ble_eq_true rfl | (simp only [List.length_nil, List.length_cons, List.length_append, List.length_replicate]; omega)) (by first | omega | exact Nat.le_of_ble_eq_true rfl | (simp only [List.length_nil, List.length_cons, List.length_append, List.length_replicate]; omega))) ?_
       rintro _ w160 ⟨rfl, hg161⟩
       have hb162 := low0 hb157 hg161
       refine wpo_pickt (v := .bool (queueOk m.t)) rfl h158 rfl rfl ?_
       refine wpo_move (v := .bool (queueOk m.t)) rfl rfl ?_
       rcases bcases (queueOk m.t) with h163 | h163
       ·
        refine wpo_run rfl rfl rfl h163 ?_
        have k164 := (k159.grown0 hg161)
        refine wpo_loadn (vs := [.int .i64 m.t.kind, .int .i64 m.t.lab.s, .int .i64 m.t.lab.v, .int .i64 m.t.ve, .int .i64 m.t.num, .slice m.sa m.t.slots.length m.sc, .slice m.qa m.t.queue.length m.qc, .int .i64 m.t.to]) rt_35 rfl rfl (k164.rangeL 0 8 rfl) rfl ?_
        refine wpo_run rfl rfl rfl h163 ?_
        refine wpo_call (vs := [.agg #[.int .i64 m.t.kind, .int .i64 m.t.lab.s, .int .i64 m.t.lab.v, .int .i64 m.t.ve, .int .i64 m.t.num, .slice m.sa m.t.slots.length m.sc, .slice m.qa m.t.queue.length m.qc, .int .i64 m.t.to]]) gf_55 (args_cons rfl args_nil) rfl (targetOk_c m _) ?_
        rintro _ w165 ⟨rfl, hg166⟩
        have hb167 := low0 hb162 hg166
        refine wpo_pickt (v := .bool (targetOk m.t)) rfl h163 rfl rfl ?_
        refine wpo_assign (v := .bool (targetOk m.t)) rfl rfl ?_
        exact wpo_nil ⟨(congrArg Value.bool (by first | (simp only [h138, h143, h148, h153, h158, h163, b0, b1, b2, b3, b4, b5, b6, b7, b8, b9]; done) | simp [h138, h143, h148, h153, h158, h163])), (grown_trans (grown_trans (grown_trans (grown_trans (grown_trans (grown_trans hg136 hg141) hg146) hg151) hg156) hg161) hg166)⟩
       ·
        refine wpo_pass rfl rfl rfl h163 rfl ?_
        refine wpo_pass rfl rfl rfl h163 rfl ?_
        refine wpo_pickf (v := .bool false) rfl h163 rfl rfl ?_
        refine wpo_assign (v := .bool false) rfl rfl ?_
        exact wpo_nil ⟨(congrArg Value.bool (by first | (simp only [h138, h143, h148, h153, h158, h163, b0, b1, b2, b3, b4, b5, b6, b7, b8, b9]; done) | simp [h138, h143, h148, h153, h158, h163])), (grown_trans (grown_trans (grown_trans (grown_trans (grown_trans hg136 hg141) hg146) hg151) hg156) hg161)⟩
      ·
       refine wpo_pass rfl rfl rfl h158 rfl ?_
       refine wpo_pass rfl rfl rfl h158 rfl ?_
       refine wpo_pickf (v := .bool false) rfl h158 rfl rfl ?_
       refine wpo_move (v := .bool false) rfl rfl ?_
       refine wpo_pass rfl rfl rfl rfl rfl ?_
       refine wpo_pass rfl rfl rfl rfl rfl ?_
       refine wpo_pickf (v := .bool false) rfl rfl rfl rfl ?_
       refine wpo_assign (v := .bool false) rfl rfl ?_
       exact wpo_nil ⟨(congrArg Value.bool (by first | (simp only [h138, h143, h148, h153, h158, b0, b1, b2, b3, b4, b5, b6, b7, b8, b9]; done) | simp [h138, h143, h148, h153, h158])), (grown_trans (grown_trans (grown_trans (grown_trans hg136 hg141) hg146) hg151) hg156)⟩
     ·
      refine wpo_pass rfl rfl rfl h153 rfl ?_
      refine wpo_pass rfl rfl rfl h153 rfl ?_
      refine wpo_pickf (v := .bool false) rfl h153 rfl rfl ?_
      refine wpo_move (v := .bool false) rfl rfl ?_
      refine wpo_pass rfl rfl rfl rfl rfl ?_
      refine wpo_pass rfl rfl rfl rfl rfl ?_
      refine wpo_pickf (v := .bool false) rfl rfl rfl rfl ?_
      refine wpo_move (v := .bool false) rfl rfl ?_
      refine wpo_pass rfl rfl rfl rfl rfl ?_
      refine wpo_pass rfl rfl rfl rfl rfl ?_
      refine wpo_pickf (v := .bool false) rfl rfl rfl rfl ?_
      refine wpo_assign (v := .bool false) rfl rfl ?_
      exact wpo_nil ⟨(congrArg Value.bool (by first | (simp only [h138, h143, h148, h153, b0, b1, b2, b3, b4, b5, b6, b7, b8, b9]; done) | simp [h138, h143, h148, h153])), (grown_trans (grown_trans (grown_trans hg136 hg141) hg146) hg151)⟩
    ·
     refine wpo_pass rfl rfl rfl h148 rfl ?_
     refine wpo_pass rfl rfl rfl h148 rfl ?_
     refine wpo_pickf (v := .bool false) rfl h148 rfl rfl ?_
     refine wpo_move (v := .bool false) rfl rfl ?_
     refine wpo_pass rfl rfl rfl rfl rfl ?_
     refine wpo_pass rfl rfl rfl rfl rfl ?_
     refine wpo_pickf (v := .bool false) rfl rfl rfl rfl ?_
     refine wpo_move (v := .bool false) rfl rfl ?_
     refine wpo_pass rfl rfl rfl rfl rfl ?_
     refine wpo_pass rfl rfl rfl rfl rfl ?_
     refine wpo_pickf (v := .bool false) rfl rfl rfl rfl ?_
     refine wpo_move (v := .bool false) rfl rfl ?_
     refine wpo_pass rfl rfl rfl rfl rfl ?_
     refine wpo_pass rfl rfl rfl rfl rfl ?_
     refine wpo_pickf (v := .bool false) rfl rfl rfl rfl ?_
     refine wpo_assign (v := .bool false) rfl rfl ?_
     exact wpo_nil ⟨(congrArg Value.bool (by first | (simp only [h138, h143, h148, b0, b1, b2, b3, b4, b5, b6, b7, b8, b9]; done) | simp [h138, h143, h148])), (grown_trans (grown_trans hg136 hg141) hg146)⟩
   ·
    refine wpo_pass rfl rfl rfl h143 rfl ?_
    refine wpo_pass rfl rfl rfl h143 rfl ?_
    refine wpo_pickf (v := .bool false) rfl h143 rfl rfl ?_
    refine wpo_move (v := .bool false) rfl rfl ?_
    refine wpo_pass rfl rfl rfl rfl rfl ?_
    refine wpo_pass rfl rfl rfl rfl rfl ?_
    refine wpo_pickf (v := .bool false) rfl rfl rfl rfl ?_
    refine wpo_move (v := .bool false) rfl rfl ?_
    refine wpo_pass rfl rfl rfl rfl rfl ?_
    refine wpo_pass rfl rfl rfl rfl rfl ?_
    refine wpo_pickf (v := .bool false) rfl rfl rfl rfl ?_
    refine wpo_move (v := .bool false) rfl rfl ?_
    refine wpo_pass rfl rfl rfl rfl rfl ?_
    refine wpo_pass rfl rfl rfl rfl rfl ?_
    refine wpo_pickf (v := .bool false) rfl rfl rfl rfl ?_
    refine wpo_move (v := .bool false) rfl rfl ?_
    refine wpo_pass rfl rfl rfl rfl rfl ?_
    refine wpo_pass rfl rfl rfl rfl rfl ?_
    refine wpo_pickf (v := .bool false) rfl rfl rfl rfl ?_
    refine wpo_assign (v := .bool false) rfl rfl ?_
    exact wpo_nil ⟨(congrArg Value.bool (by first | (simp only [h138, h143, b0, b1, b2, b3, b4, b5, b6, b7, b8, b9]; done) | simp [h138, h143])), (grown_trans hg136 hg141)⟩
  ·
   iterate 3 refine wpo_pass rfl rfl rfl h138 rfl ?_
   refine wpo_pickf (v := .bool false) rfl h138 rfl rfl ?_
   refine wpo_move (v := .bool false) rfl rfl ?_
   refine wpo_pass rfl rfl rfl rfl rfl ?_
   refine wpo_pass rfl rfl rfl rfl rfl ?_
   refine wpo_pickf (v := .bool false) rfl rfl rfl rfl ?_
   refine wpo_move (v := .bool false) rfl rfl ?_
   refine wpo_pass rfl rfl rfl rfl rfl ?_
   refine wpo_pass rfl rfl rfl rfl rfl ?_
   refine wpo_pickf (v := .bool false) rfl rfl rfl rfl ?_
   refine wpo_move (v := .bool false) rfl rfl ?_
   refine wpo_pass rfl rfl rfl rfl rfl ?_
   refine wpo_pass rfl rfl rfl rfl rfl ?_
   refine wpo_pickf (v := .bool false) rfl rfl rfl rfl ?_
   refine wpo_move (v := .bool false) rfl rfl ?_
   refine wpo_pass rfl rfl rfl rfl rfl ?_
   refine wpo_pass rfl rfl rfl rfl rfl ?_
   refine wpo_pickf (v := .bool false) rfl rfl rfl rfl ?_
   refine wpo_move (v := .bool false) rfl rfl ?_
   refine wpo_pass rfl rfl rfl rfl rfl ?_
   refine wpo_pass rfl rfl rfl rfl rfl ?_
   refine wpo_pickf (v := .bool false) rfl rfl rfl rfl ?_
   refine wpo_assign (v := .bool false) rfl rfl ?_
   exact wpo_nil ⟨(congrArg Value.bool (by first | (simp only [h138, b0, b1, b2, b3, b4, b5, b6, b7, b8, b9]; done) | simp [h138])), hg136⟩
 ·
  rintro f168 w169 ⟨e170, hg171⟩
  have hb172 := low0 hb104 hg171
  refine wpf_ret ?_
  refine ⟨.bool ((((((inR m.t.kind 1 5 && labelOk m.t.lab) && versOk m.t) && numOk m.t) && slotsOk m.t) && queueOk m.t) && targetOk m.t), res1 rfl e170, ?_, hb172⟩
  rfl
theorem l3Slots_c [Comp] (n : Int) (w : World) : CallsR Try.prog 95 #[.int .i64 n] w (fun v w' => v = .bool (decide (n = 2) || decide (n = 3)) ∧ w.grownBy w' none) := by
 refine calls_of_wpf (n := 9) Try.func95 rfl Try.ntmps95 rfl ?_
 have hb0 := World.grownBy.refl w none
 refine wpf_seq_region ?_
 refine wpo_assign (v := .bool false) rfl rfl ?_
 refine wpo_nil ?_
 refine wpf_seq_region_mid (fun f' w' => (f' 2 = .bool ((decide (n = 2)) || (decide (n = 3)))) ∧ w = w') ?_ ?_
 ·
  refine wpo_move (v := .int .i64 n) rfl rfl ?_
  refine wpo_eql (q := decide (n = 2)) rfl rfl rfl rfl ?_
  refine wpo_move (v := .bool (decide (n = 2))) rfl rfl ?_
  rcases bcases (decide (n = 2)) with h101 | h101
  ·
   have h102 := of_decide_eq_true h101
   refine wpo_pass rfl rfl rfl h101 rfl ?_
   refine wpo_pass rfl rfl rfl h101 rfl ?_
   refine wpo_pickt (v := .bool true) rfl h101 rfl rfl ?_
   refine wpo_assign (v := .bool true) rfl rfl ?_
   exact wpo_nil ⟨(congrArg Value.bool (by first | (simp only [h101, b0, b1, b2, b3, b4, b5, b6, b7, b8, b9]; done) | simp [h101])), rfl⟩
  ·
   have h103 := of_decide_eq_false h101
   refine wpo_run rfl rfl rfl h101 ?_
   refine wpo_move (v := .int .i64 n) rfl rfl ?_
   refine wpo_run rfl rfl rfl h101 ?_
   refine wpo_eql (q := decide (n = 3)) rfl rfl rfl rfl ?_
   refine wpo_pickf (v := .bool (decide (n = 3))) rfl h101 rfl rfl ?_
   refine wpo_assign (v := .bool (decide (n = 3))) rfl rfl ?_
   exact wpo_nil ⟨(congrArg Value.bool (by first | (simp only [h101, b0, b1, b2, b3, b4, b5, b6, b7, b8, b9]; done) | simp [h101])), rfl⟩
 ·
  rintro f104 w105 ⟨e106, rfl⟩
  refine wpf_ret ?_
  refine ⟨.bool ((decide (n = 2)) || (decide (n = 3))), res1 rfl e106, ?_, hb0⟩
  rfl
theorem sThingOk_c [Comp] (m : MTh) (w : World) (hs : SlAt w m.sa 5 (m.t.slots.map Rt.cells)) (hq : SlAt w m.qa 1 (m.t.queue.map icell)) (hsl : m.t.slots.length ≤ 9223372036854775806) (hql : m.t.queue.length ≤ 9223372036854775806) : CallsR Try.prog 45 #[.agg #[.int .i64 m.t.kind, .int .i64 m.t.lab.s, .int .i64 m.t.lab.v, .int .i64 m.t.ve, .int .i64 m.t.num, .slice m.sa m.t.slots.length m.sc, .slice m.qa m.t.queue.length m.qc, .int .i64 m.t.to]] w (fun v w' => v = .bool (thingOk m.t) ∧ w.grownBy w' none) := by
 refine calls_of_wpf (n := 144) Try.func45 rfl Try.ntmps45 rfl ?_
 have hb0 := World.grownBy.refl w none
 refine wpf_seq_region ?_
 refine wpo_box (v := .agg #[.int .i64 m.t.kind, .int .i64 m.t.lab.s, .int .i64 m.t.lab.v, .int .i64 m.t.ve, .int .i64 m.t.num, .slice m.sa m.t.slots.length m.sc, .slice m.qa m.t.queue.length m.qc, .int .i64 m.t.to]) (cs := #[.int .i64 m.t.kind, .int .i64 m.t.lab.s, .int .i64 m.t.lab.v, .int .i64 m.t.ve, .int .i64 m.t.num, .slice m.sa m.t.slots.length m.sc, .slice m.qa m.t.queue.length m.qc, .int .i64 m.t.to]) rfl rfl rfl ?_
 intro B101 w102 hN103
 have hlB101 := hN_ge hN103 hb0
 have hb104 := low0 hb0 hN103.grw
 refine wpo_assign (v := .bool false) rfl rfl ?_
 refine wpo_nil ?_
 refine wpf_seq ?_
 refine wpf_seq_region_mid (fun f' w' => (f' 1 = .pointer (some ⟨B101, 0, none⟩) ∧ f' 2 = .bool false ∧ f' 27 = .bool ((((!inR m.t.kind 1 5) || (!labelOk m.t.lab)) || (!inR m.t.ve 0 5)) || (decide (3 < (m.t.queue.length : Int))))) ∧ w102.grownBy w' none) ?_ ?_
 ·
  refine wpo_fieldAddr (o' := 0) fo_35_0 rfl rfl rfl ?_
  refine wpo_load1 (v := .int .i64 m.t.kind) ot_3 rfl (hN103.blk.cell rfl) rfl ?_
  refine wpo_call (vs := [.int .i64 m.t.kind, .int .i64 1, .int .i64 5]) gf_46 (args_cons rfl (args_cons rfl (args_cons rfl args_nil))) rfl (l6In_c m.t.kind 1 5 _) ?_
  rintro _ w120 ⟨rfl, hg121⟩
  have hb122 := low0 hb104 hg121
  refine wpo_not (b' := !inR m.t.kind 1 5) rfl rfl rfl ?_
  refine wpo_move (v := .bool (!inR m.t.kind 1 5)) rfl rfl ?_
  rcases bcases (!inR m.t.kind 1 5) with h123 | h123
  ·
   have h124 := nt_t h123
   iterate 4 refine wpo_pass rfl rfl rfl h123 rfl ?_
   refine wpo_pickt (v := .bool true) rfl h123 rfl rfl ?_
   refine wpo_move (v := .bool true) rfl rfl ?_
   iterate 4 refine wpo_pass rfl rfl rfl rfl rfl ?_
   refine wpo_pickt (v := .bool true) rfl rfl rfl rfl ?_
   refine wpo_move (v := .bool true) rfl rfl ?_
   iterate 4 refine wpo_pass rfl rfl rfl rfl rfl ?_
   refine wpo_pickt (v := .bool true) rfl rfl rfl rfl ?_
   exact wpo_nil ⟨⟨rfl, rfl, (congrArg Value.bool (by first | (simp only [h123, h124, b0, b1, b2, b3, b4, b5, b6, b7, b8, b9]; done) | simp [h123, h124]))⟩, hg121⟩
  ·
   have h125 := nt_f h123
   refine wpo_run rfl rfl rfl h123 ?_
   refine wpo_fieldAddr (o' := 1) fo_35_1 rfl rfl rfl ?_
   refine wpo_run rfl rfl rfl h123 ?_
   have k126 := (hN103.blk.grown0 hg121)
   refine wpo_loadn (vs := [.int .i64 m.t.lab.s, .int .i64 m.t.lab.v]) rt_25 rfl rfl (k126.rangeL 1 2 rfl) rfl ?_
   refine wpo_run rfl rfl rfl h123 ?_
   refine wpo_call (vs := [.agg #[.int .i64 m.t.lab.s, .int .i64 m.t.lab.v]]) gf_16 (args_cons rfl args_nil) rfl (sLabelOk_c m.t.lab _) ?_
   rintro _ w127 ⟨rfl, hg128⟩
   have hb129 := low0 hb122 hg128
   refine wpo_run rfl rfl rfl h123 ?_
   refine wpo_not (b' := !labelOk m.t.lab) rfl rfl rfl ?_
   refine wpo_pickf (v := .bool (!labelOk m.t.lab)) rfl h123 rfl rfl ?_
   refine wpo_move (v := .bool (!labelOk m.t.lab)) rfl rfl ?_
   rcases bcases (!labelOk m.t.lab) with h130 | h130
   ·
    have h131 := nt_t h130
    iterate 4 refine wpo_pass rfl rfl rfl h130 rfl ?_
    refine wpo_pickt (v := .bool true) rfl h130 rfl rfl ?_
    refine wpo_move (v := .bool true) rfl rfl ?_
    iterate 4 refine wpo_pass rfl rfl rfl rfl rfl ?_
    refine wpo_pickt (v := .bool true) rfl rfl rfl rfl ?_
    exact wpo_nil ⟨⟨rfl, rfl, (congrArg Value.bool (by first | (simp only [h123, h125, h130, h131, b0, b1, b2, b3, b4, b5, b6, b7, b8, b9]; done) | simp [h123, h125, h130, h131]))⟩, (grown_trans hg121 hg128)⟩
   ·
    have h132 := nt_f h130
    refine wpo_run rfl rfl rfl h130 ?_
    refine wpo_fieldAddr (o' := 3) fo_35_2 rfl rfl rfl ?_
    refine wpo_run rfl rfl rfl h130 ?_
    have k133 := (k126.grown0 hg128)
    refine wpo_load1 (v := .int .i64 m.t.ve) ot_3 rfl (k133.cell rfl) rfl ?_
    refine wpo_run rfl rfl rfl h130 ?_
    refine wpo_call (vs := [.int .i64 m.t.ve, .int .i64 0, .int .i64 5]) gf_46 (args_cons rfl (args_cons rfl (args_cons rfl args_nil))) rfl (l6In_c m.t.ve 0 5 _) ?_
    rintro _ w134 ⟨rfl, hg135⟩
    have hb136 := low0 hb129 hg135
    refine wpo_run rfl rfl rfl h130 ?_
    refine wpo_not (b' := !inR m.t.ve 0 5) rfl rfl rfl ?_
    refine wpo_pickf (v := .bool (!inR m.t.ve 0 5)) rfl h130 rfl rfl ?_
    refine wpo_move (v := .bool (!inR m.t.ve 0 5)) rfl rfl ?_
    rcases bcases (!inR m.t.ve 0 5) with h137 | h137
    ·
     have h138 := nt_t h137
     iterate 4 refine wpo_pass rfl rfl rfl h137 rfl ?_
     refine wpo_pickt (v := .bool true) rfl h137 rfl rfl ?_
     exact wpo_nil ⟨⟨rfl, rfl, (congrArg Value.bool (by first | (simp only [h123, h125, h130, h132, h137, h138, b0, b1, b2, b3, b4, b5, b6, b7, b8, b9]; done) | simp [h123, h125, h130, h132, h137, h138]))⟩, (grown_trans (grown_trans hg121 hg128) hg135)⟩
    ·
     have h139 := nt_f h137
     refine wpo_run rfl rfl rfl h137 ?_
     refine wpo_fieldAddr (o' := 6) fo_35_5 rfl rfl rfl ?_
     refine wpo_run rfl rfl rfl h137 ?_
     have k140 := (k133.grown0 hg135)
     refine wpo_load1 (v := .slice m.qa m.t.queue.length m.qc) ot_33 rfl (k140.cell rfl) rfl ?_
     refine wpo_run rfl rfl rfl h137 ?_
     refine wpo_len (by kernel_rfl) rfl rfl ?_
     refine wpo_run rfl rfl rfl h137 ?_
     refine wpo_gtr (q := decide (3 < (m.t.queue.length : Int))) rfl rfl rfl rfl ?_
     refine wpo_pickf (v := .bool (decide (3 < (m.t.queue.length : Int)))) rfl h137 rfl rfl ?_
     exact wpo_nil ⟨⟨rfl, rfl, (congrArg Value.bool (by first | (simp only [h123, h125, h130, h132, h137, h139, b0, b1, b2, b3, b4, b5, b6, b7, b8, b9]; done) | simp [h123, h125, h130, h132, h137, h139]))⟩, (grown_trans (grown_trans hg121 hg128) hg135)⟩
 ·
  rintro f141 w142 ⟨⟨e143, e144, e145⟩, hg146⟩
  have hb147 := low0 hb104 hg146
  refine wpf_cond e145 (fun h148 => ?_) (fun h148 => ?_)
  ·
   refine wpf_seq_region ?_
   refine wpo_assign (v := .bool false) rfl rfl ?_
   refine wpo_nil ?_
   refine wpf_ret ?_
   refine thn_r ?_
   refine ⟨.bool false, res1 rfl rfl, ?_, hb147⟩
   exact congrArg Value.bool (th_a h148)
  ·
   have h149 := or_l h148
   have h150 := or_l h149
   have h151 := or_l h150
   have h152 := nt_f h151
   have h153 := or_r h150
   have h154 := nt_f h153
   have h155 := or_r h149
   have h156 := nt_f h155
   have h157 := or_r h148
   have h158 := of_decide_eq_false h157
   refine wpf_skip ?_
   refine thn_n ?_
   refine wpf_seq_region ?_
   refine wpo_assign (v := .int .i64 0) rfl rfl ?_
   refine wpo_nil ?_
   refine wpf_seq ?_
   refine wpf_seq_region ?_
   refine wpo_fieldAddr (o' := 0) fo_35_0 e143 rfl rfl ?_
   have k159 := (hN103.blk.grown0 hg146)
   refine wpo_load1 (v := .int .i64 m.t.kind) ot_3 rfl (k159.cell rfl) rfl ?_
   refine wpo_eql (q := decide (m.t.kind = 3)) rfl rfl rfl rfl ?_
   refine wpo_nil ?_
   refine wpf_mid (fun f' w' => (f' 1 = .pointer (some ⟨B101, 0, none⟩) ∧ f' 2 = .bool false ∧ f' 3 = .int .i64 (if m.t.kind = 3 then (-4) else 0)) ∧ w142 = w') ?_ ?_
   ·
    refine wpf_cond rfl (fun h160 => ?_) (fun h160 => ?_)
    ·
     have h161 := of_decide_eq_true h160
     refine wpf_region ?_
     refine wpo_assign (v := .int .i64 (-4)) rfl rfl ?_
     refine wpo_nil ?_
     refine thn_n ?_
     exact ⟨⟨e143, e144, (congrArg (Value.int .i64) (if_pos (of_decide_eq_true h160)).symm)⟩, rfl⟩
    ·
     have h162 := of_decide_eq_false h160
     refine wpf_skip ?_
     refine thn_n ?_
     exact ⟨⟨e143, e144, (congrArg (Value.int .i64) (if_neg (of_decide_eq_false h160)).symm)⟩, rfl⟩
   ·
    rintro f163 _ ⟨⟨e165, e166, e167⟩, rfl⟩
    refine thn_n ?_
    refine wpf_seq ?_
    refine wpf_seq_region_mid (fun f' w' => (f' 1 = .pointer (some ⟨B101, 0, none⟩) ∧ f' 2 = .bool false ∧ f' 65 = .bool (((!inR m.t.num (if m.t.kind = 3 then (-4) else 0) 99) || ((!(decide (m.t.num = 0))) && ((decide (m.t.kind = 2)) || (decide (m.t.kind = 4))))) || ((!(decide (m.t.ve = 0))) && ((decide (m.t.kind = 3)) || (decide (m.t.kind = 5)))))) ∧ w142.grownBy w' none) ?_ ?_
    ·
     refine wpo_fieldAddr (o' := 4) fo_35_3 e165 rfl rfl ?_
     refine wpo_load1 (v := .int .i64 m.t.num) ot_3 rfl (k159.cell rfl) rfl ?_
     refine wpo_move (v := .int .i64 (if m.t.kind = 3 then (-4) else 0)) e167 rfl ?_
     refine wpo_call (vs := [.int .i64 m.t.num, .int .i64 (if m.t.kind = 3 then (-4) else 0), .int .i64 99]) gf_46 (args_cons rfl (args_cons rfl (args_cons rfl args_nil))) rfl (l6In_c m.t.num (if m.t.kind = 3 then (-4) else 0) 99 _) ?_
     rintro _ w175 ⟨rfl, hg176⟩
     have hb177 := low0 hb147 hg176
     refine wpo_not (b' := !inR m.t.num (if m.t.kind = 3 then (-4) else 0) 99) rfl rfl rfl ?_
     refine wpo_move (v := .bool (!inR m.t.num (if m.t.kind = 3 then (-4) else 0) 99)) rfl rfl ?_
     rcases bcases (!inR m.t.num (if m.t.kind = 3 then (-4) else 0) 99) with h178 | h178
     ·
      have h179 := nt_t h178
      iterate 4 refine wpo_pass rfl rfl rfl h178 rfl ?_
      iterate 8 refine wpo_passu rfl rfl rfl rfl ?_
      refine wpo_pass rfl rfl rfl h178 rfl ?_
      refine wpo_pickt (v := .bool true) rfl h178 rfl rfl ?_
      refine wpo_move (v := .bool true) rfl rfl ?_
      iterate 4 refine wpo_pass rfl rfl rfl rfl rfl ?_
      iterate 8 refine wpo_passu rfl rfl rfl rfl ?_
      refine wpo_pass rfl rfl rfl rfl rfl ?_
      refine wpo_pickt (v := .bool true) rfl rfl rfl rfl ?_
      exact wpo_nil ⟨⟨e165, e166, (congrArg Value.bool (by first | (simp only [h148, h149, h150, h151, h152, h153, h154, h155, h156, h157, h178, h179, b0, b1, b2, b3, b4, b5, b6, b7, b8, b9]; done) | simp [h148, h149, h150, h151, h152, h153, h154, h155, h156, h157, h178, h179]))⟩, hg176⟩
     ·
      have h180 := nt_f h178
      refine wpo_run rfl rfl rfl h178 ?_
      refine wpo_fieldAddr (o' := 4) fo_35_3 e165 rfl rfl ?_
      refine wpo_run rfl rfl rfl h178 ?_
      have k181 := (k159.grown0 hg176)
      refine wpo_load1 (v := .int .i64 m.t.num) ot_3 rfl (k181.cell rfl) rfl ?_
      refine wpo_run rfl rfl rfl h178 ?_
      refine wpo_neq (q := !(decide (m.t.num = 0))) rfl rfl rfl rfl ?_
      refine wpo_run rfl rfl rfl h178 ?_
      refine wpo_move (v := .bool (!(decide (m.t.num = 0)))) rfl rfl ?_
      rcases bcases (!(decide (m.t.num = 0))) with h182 | h182
      ·
       have h183 := nt_t h182
       have h184 := of_decide_eq_false h183
       refine wpo_run rfl rfl rfl h182 ?_
       refine wpo_fieldAddr (o' := 0) fo_35_0 e165 rfl rfl ?_
       refine wpo_run rfl rfl rfl h182 ?_
       refine wpo_load1 (v := .int .i64 m.t.kind) ot_3 rfl (k181.cell rfl) rfl ?_
       refine wpo_run rfl rfl rfl h182 ?_
       refine wpo_eql (q := decide (m.t.kind = 2)) rfl rfl rfl rfl ?_
       refine wpo_run rfl rfl rfl h182 ?_
       refine wpo_move (v := .bool (decide (m.t.kind = 2))) rfl rfl ?_
       rcases bcases (decide (m.t.kind = 2)) with h185 | h185
       ·
        have h186 := of_decide_eq_true h185
        iterate 3 refine wpo_pass rfl rfl rfl h185 rfl ?_
        refine wpo_run rfl rfl rfl h182 ?_
        refine wpo_pickt (v := .bool true) rfl h185 rfl rfl ?_
        refine wpo_run rfl rfl rfl h178 ?_
        refine wpo_pickt (v := .bool true) rfl h182 rfl rfl ?_
        refine wpo_pickf (v := .bool true) rfl h178 rfl rfl ?_
        refine wpo_move (v := .bool true) rfl rfl ?_
        iterate 4 refine wpo_pass rfl rfl rfl rfl rfl ?_
        iterate 8 refine wpo_passu rfl rfl rfl rfl ?_
        refine wpo_pass rfl rfl rfl rfl rfl ?_
        refine wpo_pickt (v := .bool true) rfl rfl rfl rfl ?_
        exact wpo_nil ⟨⟨e165, e166, (congrArg Value.bool (by first | (simp only [h148, h149, h150, h151, h152, h153, h154, h155, h156, h157, h178, h180, h182, h183, h185, b0, b1, b2, b3, b4, b5, b6, b7, b8, b9]; done) | simp [h148, h149, h150, h151, h152, h153, h154, h155, h156, h157, h178, h180, h182, h183, h185]))⟩, hg176⟩
       ·
        have h187 := of_decide_eq_false h185
        refine wpo_run rfl rfl rfl h185 ?_
        refine wpo_fieldAddr (o' := 0) fo_35_0 e165 rfl rfl ?_
        refine wpo_run rfl rfl rfl h185 ?_
        refine wpo_load1 (v := .int .i64 m.t.kind) ot_3 rfl (k181.cell rfl) rfl ?_
        refine wpo_run rfl rfl rfl h185 ?_
        refine wpo_eql (q := decide (m.t.kind = 4)) rfl rfl rfl rfl ?_
        refine wpo_run rfl rfl rfl h182 ?_
        refine wpo_pickf (v := .bool (decide (m.t.kind = 4))) rfl h185 rfl rfl ?_
        refine wpo_run rfl rfl rfl h178 ?_
        refine wpo_pickt (v := .bool (decide (m.t.kind = 4))) rfl h182 rfl rfl ?_
        refine wpo_pickf (v := .bool (decide (m.t.kind = 4))) rfl h178 rfl rfl ?_
        refine wpo_move (v := .bool (decide (m.t.kind = 4))) rfl rfl ?_
        rcases bcases (decide (m.t.kind = 4)) with h188 | h188
        ·
         have h189 := of_decide_eq_true h188
         iterate 4 refine wpo_pass rfl rfl rfl h188 rfl ?_
         iterate 8 refine wpo_passu rfl rfl rfl rfl ?_
         refine wpo_pass rfl rfl rfl h188 rfl ?_
         refine wpo_pickt (v := .bool true) rfl h188 rfl rfl ?_
         exact wpo_nil ⟨⟨e165, e166, (congrArg Value.bool (by first | (simp only [h148, h149, h150, h151, h152, h153, h154, h155, h156, h157, h178, h180, h182, h183, h185, h188, b0, b1, b2, b3, b4, b5, b6, b7, b8, b9]; done) | simp [h148, h149, h150, h151, h152, h153, h154, h155, h156, h157, h178, h180, h182, h183, h185, h188]))⟩, hg176⟩
        ·
         have h190 := of_decide_eq_false h188
         refine wpo_run rfl rfl rfl h188 ?_
         refine wpo_fieldAddr (o' := 3) fo_35_2 e165 rfl rfl ?_
         refine wpo_run rfl rfl rfl h188 ?_
         refine wpo_load1 (v := .int .i64 m.t.ve) ot_3 rfl (k181.cell rfl) rfl ?_
         refine wpo_run rfl rfl rfl h188 ?_
         refine wpo_neq (q := !(decide (m.t.ve = 0))) rfl rfl rfl rfl ?_
         refine wpo_run rfl rfl rfl h188 ?_
         refine wpo_move (v := .bool (!(decide (m.t.ve = 0)))) rfl rfl ?_
         rcases bcases (!(decide (m.t.ve = 0))) with h191 | h191
         ·
          have h192 := nt_t h191
          have h193 := of_decide_eq_false h192
          refine wpo_run rfl rfl rfl h191 ?_
          refine wpo_fieldAddr (o' := 0) fo_35_0 e165 rfl rfl ?_
          refine wpo_run rfl rfl rfl h191 ?_
          refine wpo_load1 (v := .int .i64 m.t.kind) ot_3 rfl (k181.cell rfl) rfl ?_
          refine wpo_run rfl rfl rfl h191 ?_
          refine wpo_eql (q := decide (m.t.kind = 3)) rfl rfl rfl rfl ?_
          refine wpo_run rfl rfl rfl h191 ?_
          refine wpo_move (v := .bool (decide (m.t.kind = 3))) rfl rfl ?_
          rcases bcases (decide (m.t.kind = 3)) with h194 | h194
          ·
           have h195 := of_decide_eq_true h194
           iterate 3 refine wpo_pass rfl rfl rfl h194 rfl ?_
           refine wpo_run rfl rfl rfl h191 ?_
           refine wpo_pickt (v := .bool true) rfl h194 rfl rfl ?_
           refine wpo_run rfl rfl rfl h188 ?_
           refine wpo_pickt (v := .bool true) rfl h191 rfl rfl ?_
           refine wpo_pickf (v := .bool true) rfl h188 rfl rfl ?_
           exact wpo_nil ⟨⟨e165, e166, (congrArg Value.bool (by first | (simp only [h148, h149, h150, h151, h152, h153, h154, h155, h156, h157, h178, h180, h182, h183, h185, h188, h191, h192, h194, b0, b1, b2, b3, b4, b5, b6, b7, b8, b9]; done) | simp [h148, h149, h150, h151, h152, h153, h154, h155, h156, h157, h178, h180, h182, h183, h185, h188, h191, h192, h194]))⟩, hg176⟩
          ·
           have h196 := of_decide_eq_false h194
           refine wpo_run rfl rfl rfl h194 ?_
           refine wpo_fieldAddr (o' := 0) fo_35_0 e165 rfl rfl ?_
           refine wpo_run rfl rfl rfl h194 ?_
           refine wpo_load1 (v := .int .i64 m.t.kind) ot_3 rfl (k181.cell rfl) rfl ?_
           refine wpo_run rfl rfl rfl h194 ?_
           refine wpo_eql (q := decide (m.t.kind = 5)) rfl rfl rfl rfl ?_
           refine wpo_run rfl rfl rfl h191 ?_
           refine wpo_pickf (v := .bool (decide (m.t.kind = 5))) rfl h194 rfl rfl ?_
           refine wpo_run rfl rfl rfl h188 ?_
           refine wpo_pickt (v := .bool (decide (m.t.kind = 5))) rfl h191 rfl rfl ?_
           refine wpo_pickf (v := .bool (decide (m.t.kind = 5))) rfl h188 rfl rfl ?_
           exact wpo_nil ⟨⟨e165, e166, (congrArg Value.bool (by first | (simp only [h148, h149, h150, h151, h152, h153, h154, h155, h156, h157, h178, h180, h182, h183, h185, h188, h191, h192, h194, b0, b1, b2, b3, b4, b5, b6, b7, b8, b9]; done) | simp [h148, h149, h150, h151, h152, h153, h154, h155, h156, h157, h178, h180, h182, h183, h185, h188, h191, h192, h194]))⟩, hg176⟩
         ·
          have h197 := nt_f h191
          have h198 := of_decide_eq_true h197
          iterate 4 refine wpo_pass rfl rfl rfl h191 rfl ?_
          iterate 3 refine wpo_passu rfl rfl rfl rfl ?_
          refine wpo_pass rfl rfl rfl h191 rfl ?_
          refine wpo_run rfl rfl rfl h188 ?_
          refine wpo_pickf (v := .bool false) rfl h191 rfl rfl ?_
          refine wpo_pickf (v := .bool false) rfl h188 rfl rfl ?_
          exact wpo_nil ⟨⟨e165, e166, (congrArg Value.bool (by first | (simp only [h148, h149, h150, h151, h152, h153, h154, h155, h156, h157, h178, h180, h182, h183, h185, h188, h191, h197, b0, b1, b2, b3, b4, b5, b6, b7, b8, b9]; done) | simp [h148, h149, h150, h151, h152, h153, h154, h155, h156, h157, h178, h180, h182, h183, h185, h188, h191, h197]))⟩, hg176⟩
      ·
       have h199 := nt_f h182
       have h200 := of_decide_eq_true h199
       iterate 4 refine wpo_pass rfl rfl rfl h182 rfl ?_
       iterate 3 refine wpo_passu rfl rfl rfl rfl ?_
       refine wpo_pass rfl rfl rfl h182 rfl ?_
       refine wpo_run rfl rfl rfl h178 ?_
       refine wpo_pickf (v := .bool false) rfl h182 rfl rfl ?_
       refine wpo_pickf (v := .bool false) rfl h178 rfl rfl ?_
       refine wpo_move (v := .bool false) rfl rfl ?_
       refine wpo_run rfl rfl rfl rfl ?_
       refine wpo_fieldAddr (o' := 3) fo_35_2 e165 rfl rfl ?_
       refine wpo_run rfl rfl rfl rfl ?_
       refine wpo_load1 (v := .int .i64 m.t.ve) ot_3 rfl (k181.cell rfl) rfl ?_
       refine wpo_run rfl rfl rfl rfl ?_
       refine wpo_neq (q := !(decide (m.t.ve = 0))) rfl rfl rfl rfl ?_
       refine wpo_run rfl rfl rfl rfl ?_
       refine wpo_move (v := .bool (!(decide (m.t.ve = 0)))) rfl rfl ?_
       rcases bcases (!(decide (m.t.ve = 0))) with h201 | h201
       ·
        have h202 := nt_t h201
        have h203 := of_decide_eq_false h202
        refine wpo_run rfl rfl rfl h201 ?_
        refine wpo_fieldAddr (o' := 0) fo_35_0 e165 rfl rfl ?_
        refine wpo_run rfl rfl rfl h201 ?_
        refine wpo_load1 (v := .int .i64 m.t.kind) ot_3 rfl (k181.cell rfl) rfl ?_
        refine wpo_run rfl rfl rfl h201 ?_
        refine wpo_eql (q := decide (m.t.kind = 3)) rfl rfl rfl rfl ?_
        refine wpo_run rfl rfl rfl h201 ?_
        refine wpo_move (v := .bool (decide (m.t.kind = 3))) rfl rfl ?_
        rcases bcases (decide (m.t.kind = 3)) with h204 | h204
        ·
         have h205 := of_decide_eq_true h204
         iterate 3 refine wpo_pass rfl rfl rfl h204 rfl ?_
         refine wpo_run rfl rfl rfl h201 ?_
         refine wpo_pickt (v := .bool true) rfl h204 rfl rfl ?_
         refine wpo_run rfl rfl rfl rfl ?_
         refine wpo_pickt (v := .bool true) rfl h201 rfl rfl ?_
         refine wpo_pickf (v := .bool true) rfl rfl rfl rfl ?_
         exact wpo_nil ⟨⟨e165, e166, (congrArg Value.bool (by first | (simp only [h148, h149, h150, h151, h152, h153, h154, h155, h156, h157, h178, h180, h182, h199, h201, h202, h204, b0, b1, b2, b3, b4, b5, b6, b7, b8, b9]; done) | simp [h148, h149, h150, h151, h152, h153, h154, h155, h156, h157, h178, h180, h182, h199, h201, h202, h204]))⟩, hg176⟩
        ·
         have h206 := of_decide_eq_false h204
         refine wpo_run rfl rfl rfl h204 ?_
         refine wpo_fieldAddr (o' := 0) fo_35_0 e165 rfl rfl ?_
         refine wpo_run rfl rfl rfl h204 ?_
         refine wpo_load1 (v := .int .i64 m.t.kind) ot_3 rfl (k181.cell rfl) rfl ?_
         refine wpo_run rfl rfl rfl h204 ?_
         refine wpo_eql (q := decide (m.t.kind = 5)) rfl rfl rfl rfl ?_
         refine wpo_run rfl rfl rfl h201 ?_
         refine wpo_pickf (v := .bool (decide (m.t.kind = 5))) rfl h204 rfl rfl ?_
         refine wpo_run rfl rfl rfl rfl ?_
         refine wpo_pickt (v := .bool (decide (m.t.kind = 5))) rfl h201 rfl rfl ?_
         refine wpo_pickf (v := .bool (decide (m.t.kind = 5))) rfl rfl rfl rfl ?_
         exact wpo_nil ⟨⟨e165, e166, (congrArg Value.bool (by first | (simp only [h148, h149, h150, h151, h152, h153, h154, h155, h156, h157, h178, h180, h182, h199, h201, h202, h204, b0, b1, b2, b3, b4, b5, b6, b7, b8, b9]; done) | simp [h148, h149, h150, h151, h152, h153, h154, h155, h156, h157, h178, h180, h182, h199, h201, h202, h204]))⟩, hg176⟩
       ·
        have h207 := nt_f h201
        have h208 := of_decide_eq_true h207
        iterate 4 refine wpo_pass rfl rfl rfl h201 rfl ?_
        iterate 3 refine wpo_passu rfl rfl rfl rfl ?_
        refine wpo_pass rfl rfl rfl h201 rfl ?_
        refine wpo_run rfl rfl rfl rfl ?_
        refine wpo_pickf (v := .bool false) rfl h201 rfl rfl ?_
        refine wpo_pickf (v := .bool false) rfl rfl rfl rfl ?_
        exact wpo_nil ⟨⟨e165, e166, (congrArg Value.bool (by first | (simp only [h148, h149, h150, h151, h152, h153, h154, h155, h156, h157, h178, h180, h182, h199, h201, h207, b0, b1, b2, b3, b4, b5, b6, b7, b8, b9]; done) | simp [h148, h149, h150, h151, h152, h153, h154, h155, h156, h157, h178, h180, h182, h199, h201, h207]))⟩, hg176⟩
    ·
     rintro f209 w210 ⟨⟨e211, e212, e213⟩, hg214⟩
     have hb215 := low0 hb147 hg214
     refine wpf_cond e213 (fun h216 => ?_) (fun h216 => ?_)
     ·
      refine wpf_seq_region ?_
      refine wpo_assign (v := .bool false) rfl rfl ?_
      refine wpo_nil ?_
      refine wpf_ret ?_
      refine thn_r ?_
      refine ⟨.bool false, res1 rfl rfl, ?_, hb215⟩
      exact congrArg Value.bool (th_b h216)
     ·
      have h217 := or_l h216
      have h218 := or_l h217
      have h219 := nt_f h218
      have h220 := or_r h217
      have h221 := or_r h216
      refine wpf_skip ?_
      refine thn_n ?_
      refine wpf_seq ?_
      refine wpf_seq_region ?_
      refine wpo_assign (v := .int .i64 0) rfl rfl ?_
      refine wpo_nil ?_
      refine wpf_block ?_
      have k222 := (k159.grown0 hg214)
      refine wpf_loopN (fun mm f' w' => ∃ (k : Nat), mm = m.t.queue.length - k ∧ k ≤ m.t.queue.length ∧ ((m.t.queue.take k).all numQ) = true ∧ f' 4 = .int .i64 (k : Int) ∧ f' 1 = .pointer (some ⟨B101, 0, none⟩) ∧ w.grownBy w' none ∧ Blk w' B101 35 #[.int .i64 m.t.kind, .int .i64 m.t.lab.s, .int .i64 m.t.lab.v, .int .i64 m.t.ve, .int .i64 m.t.num, .slice m.sa m.t.slots.length m.sc, .slice m.qa m.t.queue.length m.qc, .int .i64 m.t.to]) (m.t.queue.length - 0) ⟨0, rfl, (Nat.zero_le _), rfl, rfl, e211, hb215, k222⟩ ?_
      rintro mm f223 w224 ⟨k, hm226, hk, ha, e227, e228, hb225, k229⟩
      refine wpf_seq ?_
      refine wpf_seq_region ?_
      refine wpo_move (v := .int .i64 (k : Int)) e227 rfl ?_
      refine wpo_fieldAddr (o' := 6) fo_35_5 e228 rfl rfl ?_
      refine wpo_load1 (v := .slice m.qa m.t.queue.length m.qc) ot_33 rfl (k229.cell rfl) rfl ?_
      refine wpo_len (by kernel_rfl) rfl rfl ?_
      refine wpo_lss (q := decide ((k : Int) < (m.t.queue.length : Int))) rfl rfl rfl rfl ?_
      refine wpo_nil ?_
      refine wpf_cond rfl (fun h230 => ?_) (fun h230 => ?_)
      ·
       have h231 := of_decide_eq_true h230
       refine wpf_skip ?_
       refine thn_n ?_
       refine wpf_seq ?_
       refine wpf_block ?_
       refine wpf_seq_region ?_
       refine wpo_fieldAddr (o' := 6) fo_35_5 e228 rfl rfl ?_
       refine wpo_load1 (v := .slice m.qa m.t.queue.length m.qc) ot_33 rfl (k229.cell rfl) rfl ?_
       refine wpo_move (v := .int .i64 (k : Int)) e227 rfl ?_
       obtain ⟨x232, hx233⟩ := get_lt (l := m.t.queue) (i := k) (by omega)
       obtain ⟨b234, q235, o236, ha237, ho238, hr239⟩ := SlAt.at hq (map_get hx233)
       refine wpo_indexE es_33 rfl rfl ha237 ho238 (by omega) (by omega) rfl ?_
       refine wpo_load1 (v := .int .i64 x232) ot_3 rfl ((range_low hr239 hb225) 0 _ rfl) rfl ?_
       refine wpo_call (vs := [.int .i64 x232, .int .i64 0, .int .i64 99]) gf_46 (args_cons rfl (args_cons rfl (args_cons rfl args_nil))) rfl (l6In_c x232 0 99 _) ?_
       rintro _ w240 ⟨rfl, hg241⟩
       have hb242 := low0 hb225 hg241
       refine wpo_not (b' := !inR x232 0 99) rfl rfl rfl ?_
       refine wpo_nil ?_
       refine wpf_cond rfl (fun h243 => ?_) (fun h243 => ?_)
       ·
        have h244 := nt_t h243
        refine wpf_seq_region ?_
        refine wpo_assign (v := .bool false) rfl rfl ?_
        refine wpo_nil ?_
        refine wpf_ret ?_
        refine blk_r ?_
        refine thn_r ?_
        refine thn_r ?_
        refine blk_r ?_
        refine thn_r ?_
        refine ⟨.bool false, res1 rfl rfl, ?_, hb242⟩
        exact congrArg Value.bool (th_q hx233 h244)
       ·
        have h245 := nt_f h243
        refine wpf_skip ?_
        refine blk_n ?_
        refine thn_n ?_
        refine wpf_region ?_
        refine wpo_move (v := .int .i64 (k : Int)) e227 rfl ?_
        refine wpo_add (c := (k : Int) + 1) rfl rfl (by omega) (by omega) (by omega) rfl ?_
        refine wpo_assign (v := .int .i64 ((k : Int) + 1)) rfl rfl ?_
        refine wpo_nil ?_
        refine thn_n ?_
        have k246 := (k229.grown0 hg241)
        exact ⟨m.t.queue.length - (k + 1), by omega, (k + 1), rfl, (by omega), (take_all_succ (p := numQ) ha hx233 h245), rfl, e228, hb242, k246⟩
      ·
       have h247 := of_decide_eq_false h230
       refine wpf_exit ?_
       refine thn_e ?_
       refine thn_e ?_
       refine blk_e ?_
       refine thn_n ?_
       refine wpf_seq ?_
       refine wpf_seq_region ?_
       refine wpo_assign (v := .int .i64 0) rfl rfl ?_
       refine wpo_nil ?_
       refine wpf_block ?_
       refine wpf_loopN (fun mm f' w' => ∃ (j : Nat), mm = m.t.slots.length - j ∧ j ≤ m.t.slots.length ∧ ((m.t.slots.take j).all rightOk) = true ∧ f' 5 = .int .i64 (j : Int) ∧ f' 1 = .pointer (some ⟨B101, 0, none⟩) ∧ w.grownBy w' none ∧ Blk w' B101 35 #[.int .i64 m.t.kind, .int .i64 m.t.lab.s, .int .i64 m.t.lab.v, .int .i64 m.t.ve, .int .i64 m.t.num, .slice m.sa m.t.slots.length m.sc, .slice m.qa m.t.queue.length m.qc, .int .i64 m.t.to]) (m.t.slots.length - 0) ⟨0, rfl, (Nat.zero_le _), rfl, rfl, e228, hb225, k229⟩ ?_
       rintro mm f248 w249 ⟨j, hm251, hj, hb, e252, e253, hb250, k254⟩
       refine wpf_seq ?_
       refine wpf_seq_region ?_
       refine wpo_move (v := .int .i64 (j : Int)) e252 rfl ?_
       refine wpo_fieldAddr (o' := 5) fo_35_4 e253 rfl rfl ?_
       refine wpo_load1 (v := .slice m.sa m.t.slots.length m.sc) ot_32 rfl (k254.cell rfl) rfl ?_
       refine wpo_len (by kernel_rfl) rfl rfl ?_
       refine wpo_lss (q := decide ((j : Int) < (m.t.slots.length : Int))) rfl rfl rfl rfl ?_
       refine wpo_nil ?_
       refine wpf_cond rfl (fun h255 => ?_) (fun h255 => ?_)
       ·
        have h256 := of_decide_eq_true h255
        refine wpf_skip ?_
        refine thn_n ?_
        refine wpf_seq ?_
        refine wpf_block ?_
        refine wpf_seq_region ?_
        refine wpo_fieldAddr (o' := 5) fo_35_4 e253 rfl rfl ?_
        refine wpo_load1 (v := .slice m.sa m.t.slots.length m.sc) ot_32 rfl (k254.cell rfl) rfl ?_
        refine wpo_move (v := .int .i64 (j : Int)) e252 rfl ?_
        obtain ⟨x257, hx258⟩ := get_lt (l := m.t.slots) (i := j) (by omega)
        obtain ⟨b259, q260, o261, ha262, ho263, hr264⟩ := SlAt.at hs (map_get hx258)
        refine wpo_indexE es_32 rfl rfl ha262 ho263 (by omega) (by omega) rfl ?_
        refine wpo_loadn (vs := [.int .i64 x257.th, .int .i64 x257.ve, .bool x257.rd, .bool x257.wr, .bool x257.wk]) rt_74 rfl rfl (range_sub (range_low hr264 hb250) 0 5 rfl) rfl ?_
        refine wpo_call (vs := [.agg #[.int .i64 x257.th, .int .i64 x257.ve, .bool x257.rd, .bool x257.wr, .bool x257.wk]]) gf_94 (args_cons rfl args_nil) rfl (sRightOk_c x257 _) ?_
        rintro _ w265 ⟨rfl, hg266⟩
        have hb267 := low0 hb250 hg266
        refine wpo_not (b' := !rightOk x257) rfl rfl rfl ?_
        refine wpo_nil ?_
        refine wpf_cond rfl (fun h268 => ?_) (fun h268 => ?_)
        ·
         have h269 := nt_t h268
         refine wpf_seq_region ?_
         refine wpo_assign (v := .bool false) rfl rfl ?_
         refine wpo_nil ?_
         refine wpf_ret ?_
         refine blk_r ?_
         refine thn_r ?_
         refine thn_r ?_
         refine blk_r ?_
         refine thn_r ?_
         refine ⟨.bool false, res1 rfl rfl, ?_, hb267⟩
         exact congrArg Value.bool (th_r hx258 h269)
        ·
         have h270 := nt_f h268
         refine wpf_skip ?_
         refine blk_n ?_
         refine thn_n ?_
         refine wpf_region ?_
         refine wpo_move (v := .int .i64 (j : Int)) e252 rfl ?_
         refine wpo_add (c := (j : Int) + 1) rfl rfl (by omega) (by omega) (by omega) rfl ?_
         refine wpo_assign (v := .int .i64 ((j : Int) + 1)) rfl rfl ?_
         refine wpo_nil ?_
         refine thn_n ?_
         have k271 := (k254.grown0 hg266)
         exact ⟨m.t.slots.length - (j + 1), by omega, (j + 1), rfl, (by omega), (take_all_succ (p := rightOk) hb hx258 h270), rfl, e253, hb267, k271⟩
       ·
        have h272 := of_decide_eq_false h255
        refine wpf_exit ?_
        refine thn_e ?_
        refine thn_e ?_
        refine blk_e ?_
        refine thn_n ?_
        refine wpf_seq ?_
        refine wpf_seq_region_mid (fun f' w' => (f' 1 = .pointer (some ⟨B101, 0, none⟩) ∧ f' 114 = .bool ((((decide (m.t.kind = 2)) || (decide (m.t.kind = 3))) && (!(decide ((m.t.slots.length : Int) = 4)))) || ((!((decide (m.t.kind = 2)) || (decide (m.t.kind = 3)))) && (!(decide ((m.t.slots.length : Int) = 0)))))) ∧ w249.grownBy w' none) ?_ ?_
        ·
         refine wpo_fieldAddr (o' := 0) fo_35_0 e253 rfl rfl ?_
         refine wpo_load1 (v := .int .i64 m.t.kind) ot_3 rfl (k254.cell rfl) rfl ?_
         refine wpo_call (vs := [.int .i64 m.t.kind]) gf_95 (args_cons rfl args_nil) rfl (l3Slots_c m.t.kind _) ?_
         rintro _ w284 ⟨rfl, hg285⟩
         have hb286 := low0 hb250 hg285
         refine wpo_move (v := .bool ((decide (m.t.kind = 2)) || (decide (m.t.kind = 3)))) rfl rfl ?_
         rcases bcases ((decide (m.t.kind = 2)) || (decide (m.t.kind = 3))) with h287 | h287
         ·
          refine wpo_run rfl rfl rfl h287 ?_
          refine wpo_fieldAddr (o' := 5) fo_35_4 e253 rfl rfl ?_
          refine wpo_run rfl rfl rfl h287 ?_
          have k288 := (k254.grown0 hg285)
          refine wpo_load1 (v := .slice m.sa m.t.slots.length m.sc) ot_32 rfl (k288.cell rfl) rfl ?_
          refine wpo_run rfl rfl rfl h287 ?_
          refine wpo_len (by kernel_rfl) rfl rfl ?_
          refine wpo_run rfl rfl rfl h287 ?_
          refine wpo_neq (q := !(decide ((m.t.slots.length : Int) = 4))) rfl rfl rfl rfl ?_
          refine wpo_pickt (v := .bool (!(decide ((m.t.slots.length : Int) = 4)))) rfl h287 rfl rfl ?_
          refine wpo_move (v := .bool (!(decide ((m.t.slots.length : Int) = 4)))) rfl rfl ?_
          rcases bcases (!(decide ((m.t.slots.length : Int) = 4))) with h289 | h289
          ·
           have h290 := nt_t h289
           have h291 := of_decide_eq_false h290
           iterate 5 refine wpo_pass rfl rfl rfl h289 rfl ?_
           iterate 4 refine wpo_passu rfl rfl rfl rfl ?_
           refine wpo_pass rfl rfl rfl h289 rfl ?_
           refine wpo_pickt (v := .bool true) rfl h289 rfl rfl ?_
           exact wpo_nil ⟨⟨e253, (congrArg Value.bool (by first | (simp only [h148, h149, h150, h151, h152, h153, h154, h155, h156, h157, h216, h217, h218, h219, h220, h221, h230, h255, h287, h289, h290, b0, b1, b2, b3, b4, b5, b6, b7, b8, b9]; done) | simp [h148, h149, h150, h151, h152, h153, h154, h155, h156, h157, h216, h217, h218, h219, h220, h221, h230, h255, h287, h289, h290]))⟩, hg285⟩
          ·
           have h292 := nt_f h289
           have h293 := of_decide_eq_true h292
           refine wpo_run rfl rfl rfl h289 ?_
           refine wpo_fieldAddr (o' := 0) fo_35_0 e253 rfl rfl ?_
           refine wpo_run rfl rfl rfl h289 ?_
           refine wpo_load1 (v := .int .i64 m.t.kind) ot_3 rfl (k288.cell rfl) rfl ?_
           refine wpo_run rfl rfl rfl h289 ?_
           refine wpo_call (vs := [.int .i64 m.t.kind]) gf_95 (args_cons rfl args_nil) rfl (l3Slots_c m.t.kind _) ?_
           rintro _ w294 ⟨rfl, hg295⟩
           have hb296 := low0 hb286 hg295
           refine wpo_run rfl rfl rfl h289 ?_
           refine wpo_not (b' := !((decide (m.t.kind = 2)) || (decide (m.t.kind = 3)))) rfl rfl rfl ?_
           refine wpo_run rfl rfl rfl h289 ?_
           refine wpo_move (v := .bool (!((decide (m.t.kind = 2)) || (decide (m.t.kind = 3))))) rfl rfl ?_
           iterate 4 refine wpo_pass rfl rfl rfl (not_of_t h287) rfl ?_
           refine wpo_run rfl rfl rfl h289 ?_
           refine wpo_pickf (v := .bool false) rfl (not_of_t h287) rfl rfl ?_
           refine wpo_pickf (v := .bool false) rfl h289 rfl rfl ?_
           exact wpo_nil ⟨⟨e253, (congrArg Value.bool (by first | (simp only [h148, h149, h150, h151, h152, h153, h154, h155, h156, h157, h216, h217, h218, h219, h220, h221, h230, h255, h287, h289, h292, b0, b1, b2, b3, b4, b5, b6, b7, b8, b9]; done) | simp [h148, h149, h150, h151, h152, h153, h154, h155, h156, h157, h216, h217, h218, h219, h220, h221, h230, h255, h287, h289, h292]))⟩, (grown_trans hg285 hg295)⟩
         ·
          have h297 := or_l h287
          have h298 := of_decide_eq_false h297
          have h299 := or_r h287
          have h300 := of_decide_eq_false h299
          iterate 4 refine wpo_pass rfl rfl rfl h287 rfl ?_
          refine wpo_pickf (v := .bool false) rfl h287 rfl rfl ?_
          refine wpo_move (v := .bool false) rfl rfl ?_
          refine wpo_run rfl rfl rfl rfl ?_
          refine wpo_fieldAddr (o' := 0) fo_35_0 e253 rfl rfl ?_
          refine wpo_run rfl rfl rfl rfl ?_
          have k301 := (k254.grown0 hg285)
          refine wpo_load1 (v := .int .i64 m.t.kind) ot_3 rfl (k301.cell rfl) rfl ?_
          refine wpo_run rfl rfl rfl rfl ?_
          refine wpo_call (vs := [.int .i64 m.t.kind]) gf_95 (args_cons rfl args_nil) rfl (l3Slots_c m.t.kind _) ?_
          rintro _ w302 ⟨rfl, hg303⟩
          have hb304 := low0 hb286 hg303
          refine wpo_run rfl rfl rfl rfl ?_
          refine wpo_not (b' := !((decide (m.t.kind = 2)) || (decide (m.t.kind = 3)))) rfl rfl rfl ?_
          refine wpo_run rfl rfl rfl rfl ?_
          refine wpo_move (v := .bool (!((decide (m.t.kind = 2)) || (decide (m.t.kind = 3))))) rfl rfl ?_
          refine wpo_run rfl rfl rfl (not_of_f h287) ?_
          refine wpo_fieldAddr (o' := 5) fo_35_4 e253 rfl rfl ?_
          refine wpo_run rfl rfl rfl (not_of_f h287) ?_
          have k305 := (k301.grown0 hg303)
          refine wpo_load1 (v := .slice m.sa m.t.slots.length m.sc) ot_32 rfl (k305.cell rfl) rfl ?_
          refine wpo_run rfl rfl rfl (not_of_f h287) ?_
          refine wpo_len (by kernel_rfl) rfl rfl ?_
          refine wpo_run rfl rfl rfl (not_of_f h287) ?_
          refine wpo_neq (q := !(decide ((m.t.slots.length : Int) = 0))) rfl rfl rfl rfl ?_
          refine wpo_run rfl rfl rfl rfl ?_
          refine wpo_pickt (v := .bool (!(decide ((m.t.slots.length : Int) = 0)))) rfl (not_of_f h287) rfl rfl ?_
          refine wpo_pickf (v := .bool (!(decide ((m.t.slots.length : Int) = 0)))) rfl rfl rfl rfl ?_
          exact wpo_nil ⟨⟨e253, (congrArg Value.bool (by first | (simp only [h148, h149, h150, h151, h152, h153, h154, h155, h156, h157, h216, h217, h218, h219, h220, h221, h230, h255, h287, h297, h299, b0, b1, b2, b3, b4, b5, b6, b7, b8, b9]; done) | simp [h148, h149, h150, h151, h152, h153, h154, h155, h156, h157, h216, h217, h218, h219, h220, h221, h230, h255, h287, h297, h299]))⟩, (grown_trans hg285 hg303)⟩
        ·
         rintro f306 w307 ⟨⟨e308, e309⟩, hg310⟩
         have hb311 := low0 hb250 hg310
         refine wpf_cond e309 (fun h312 => ?_) (fun h312 => ?_)
         ·
          refine wpf_seq_region ?_
          refine wpo_assign (v := .bool false) rfl rfl ?_
          refine wpo_nil ?_
          refine wpf_ret ?_
          refine thn_r ?_
          refine ⟨.bool false, res1 rfl rfl, ?_, hb311⟩
          exact congrArg Value.bool (th_d h312)
         ·
          have h313 := or_l h312
          have h314 := or_r h312
          refine wpf_skip ?_
          refine thn_n ?_
          refine wpf_seq_region_mid (fun f' w' => (f' 2 = .bool (((decide (m.t.kind = 4)) || (decide ((m.t.queue.length : Int) = 0))) && (((decide (m.t.kind = 5)) && inR m.t.to 1 8) || ((!(decide (m.t.kind = 5))) && (decide (m.t.to = 0)))))) ∧ w307.grownBy w' none) ?_ ?_
          ·
           refine wpo_fieldAddr (o' := 0) fo_35_0 e308 rfl rfl ?_
           have k321 := (k254.grown0 hg310)
           refine wpo_load1 (v := .int .i64 m.t.kind) ot_3 rfl (k321.cell rfl) rfl ?_
           refine wpo_eql (q := decide (m.t.kind = 4)) rfl rfl rfl rfl ?_
           refine wpo_move (v := .bool (decide (m.t.kind = 4))) rfl rfl ?_
           rcases bcases (decide (m.t.kind = 4)) with h322 | h322
           ·
            have h323 := of_decide_eq_true h322
            iterate 4 refine wpo_pass rfl rfl rfl h322 rfl ?_
            refine wpo_pickt (v := .bool true) rfl h322 rfl rfl ?_
            refine wpo_move (v := .bool true) rfl rfl ?_
            refine wpo_run rfl rfl rfl rfl ?_
            refine wpo_fieldAddr (o' := 0) fo_35_0 e308 rfl rfl ?_
            refine wpo_run rfl rfl rfl rfl ?_
            refine wpo_load1 (v := .int .i64 m.t.kind) ot_3 rfl (k321.cell rfl) rfl ?_
            refine wpo_run rfl rfl rfl rfl ?_
            refine wpo_eql (q := decide (m.t.kind = 5)) rfl rfl rfl rfl ?_
            refine wpo_run rfl rfl rfl rfl ?_
            refine wpo_move (v := .bool (decide (m.t.kind = 5))) rfl rfl ?_
            rcases bcases (decide (m.t.kind = 5)) with h324 | h324
            ·
             have h325 := of_decide_eq_true h324
             refine wpo_run rfl rfl rfl h324 ?_
             refine wpo_fieldAddr (o' := 7) fo_35_6 e308 rfl rfl ?_
             refine wpo_run rfl rfl rfl h324 ?_
             refine wpo_load1 (v := .int .i64 m.t.to) ot_3 rfl (k321.cell rfl) rfl ?_
             refine wpo_run rfl rfl rfl h324 ?_
             refine wpo_call (vs := [.int .i64 m.t.to, .int .i64 1, .int .i64 8]) gf_46 (args_cons rfl (args_cons rfl (args_cons rfl args_nil))) rfl (l6In_c m.t.to 1 8 _) ?_
             rintro _ w326 ⟨rfl, hg327⟩
             have hb328 := low0 hb311 hg327
             refine wpo_run rfl rfl rfl rfl ?_
             refine wpo_pickt (v := .bool (inR m.t.to 1 8)) rfl h324 rfl rfl ?_
             refine wpo_run rfl rfl rfl rfl ?_
             refine wpo_move (v := .bool (inR m.t.to 1 8)) rfl rfl ?_
             rcases bcases (inR m.t.to 1 8) with h329 | h329
             ·
              iterate 4 refine wpo_pass rfl rfl rfl h329 rfl ?_
              iterate 3 refine wpo_passu rfl rfl rfl rfl ?_
              refine wpo_pass rfl rfl rfl h329 rfl ?_
              refine wpo_run rfl rfl rfl rfl ?_
              refine wpo_pickt (v := .bool true) rfl h329 rfl rfl ?_
              refine wpo_pickt (v := .bool true) rfl rfl rfl rfl ?_
              refine wpo_assign (v := .bool true) rfl rfl ?_
              exact wpo_nil ⟨(congrArg Value.bool (by first | (simp only [h148, h149, h150, h151, h152, h153, h154, h155, h156, h157, h216, h217, h218, h219, h220, h221, h230, h255, h312, h313, h314, h322, h324, h329, b0, b1, b2, b3, b4, b5, b6, b7, b8, b9]; done) | simp [h148, h149, h150, h151, h152, h153, h154, h155, h156, h157, h216, h217, h218, h219, h220, h221, h230, h255, h312, h313, h314, h322, h324, h329])), hg327⟩
             ·
              refine wpo_run rfl rfl rfl h329 ?_
              refine wpo_fieldAddr (o' := 0) fo_35_0 e308 rfl rfl ?_
              refine wpo_run rfl rfl rfl h329 ?_
              have k330 := (k321.grown0 hg327)
              refine wpo_load1 (v := .int .i64 m.t.kind) ot_3 rfl (k330.cell rfl) rfl ?_
              refine wpo_run rfl rfl rfl h329 ?_
              refine wpo_neq (q := !(decide (m.t.kind = 5))) rfl rfl rfl rfl ?_
              refine wpo_run rfl rfl rfl h329 ?_
              refine wpo_move (v := .bool (!(decide (m.t.kind = 5)))) rfl rfl ?_
              iterate 3 refine wpo_pass rfl rfl rfl (not_of_t h324) rfl ?_
              refine wpo_run rfl rfl rfl h329 ?_
              refine wpo_pickf (v := .bool false) rfl (not_of_t h324) rfl rfl ?_
              refine wpo_run rfl rfl rfl rfl ?_
              refine wpo_pickf (v := .bool false) rfl h329 rfl rfl ?_
              refine wpo_pickt (v := .bool false) rfl rfl rfl rfl ?_
              refine wpo_assign (v := .bool false) rfl rfl ?_
              exact wpo_nil ⟨(congrArg Value.bool (by first | (simp only [h148, h149, h150, h151, h152, h153, h154, h155, h156, h157, h216, h217, h218, h219, h220, h221, h230, h255, h312, h313, h314, h322, h324, h329, b0, b1, b2, b3, b4, b5, b6, b7, b8, b9]; done) | simp [h148, h149, h150, h151, h152, h153, h154, h155, h156, h157, h216, h217, h218, h219, h220, h221, h230, h255, h312, h313, h314, h322, h324, h329])), hg327⟩
            ·
             have h331 := of_decide_eq_false h324
             iterate 3 refine wpo_pass rfl rfl rfl h324 rfl ?_
             refine wpo_run rfl rfl rfl rfl ?_
             refine wpo_pickf (v := .bool false) rfl h324 rfl rfl ?_
             refine wpo_run rfl rfl rfl rfl ?_
             refine wpo_move (v := .bool false) rfl rfl ?_
             refine wpo_run rfl rfl rfl rfl ?_
             refine wpo_fieldAddr (o' := 0) fo_35_0 e308 rfl rfl ?_
             refine wpo_run rfl rfl rfl rfl ?_
             refine wpo_load1 (v := .int .i64 m.t.kind) ot_3 rfl (k321.cell rfl) rfl ?_
             refine wpo_run rfl rfl rfl rfl ?_
             refine wpo_neq (q := !(decide (m.t.kind = 5))) rfl rfl rfl rfl ?_
             refine wpo_run rfl rfl rfl rfl ?_
             refine wpo_move (v := .bool (!(decide (m.t.kind = 5)))) rfl rfl ?_
             refine wpo_run rfl rfl rfl (not_of_f h324) ?_
             refine wpo_fieldAddr (o' := 7) fo_35_6 e308 rfl rfl ?_
             refine wpo_run rfl rfl rfl (not_of_f h324) ?_
             refine wpo_load1 (v := .int .i64 m.t.to) ot_3 rfl (k321.cell rfl) rfl ?_
             refine wpo_run rfl rfl rfl (not_of_f h324) ?_
             refine wpo_eql (q := decide (m.t.to = 0)) rfl rfl rfl rfl ?_
             refine wpo_run rfl rfl rfl rfl ?_
             refine wpo_pickt (v := .bool (decide (m.t.to = 0))) rfl (not_of_f h324) rfl rfl ?_
             refine wpo_run rfl rfl rfl rfl ?_
             refine wpo_pickf (v := .bool (decide (m.t.to = 0))) rfl rfl rfl rfl ?_
             refine wpo_pickt (v := .bool (decide (m.t.to = 0))) rfl rfl rfl rfl ?_
             refine wpo_assign (v := .bool (decide (m.t.to = 0))) rfl rfl ?_
             exact wpo_nil ⟨(congrArg Value.bool (by first | (simp only [h148, h149, h150, h151, h152, h153, h154, h155, h156, h157, h216, h217, h218, h219, h220, h221, h230, h255, h312, h313, h314, h322, h324, b0, b1, b2, b3, b4, b5, b6, b7, b8, b9]; done) | simp [h148, h149, h150, h151, h152, h153, h154, h155, h156, h157, h216, h217, h218, h219, h220, h221, h230, h255, h312, h313, h314, h322, h324])), (World.grownBy.refl _ _)⟩
           ·
            have h332 := of_decide_eq_false h322
            refine wpo_run rfl rfl rfl h322 ?_
            refine wpo_fieldAddr (o' := 6) fo_35_5 e308 rfl rfl ?_
            refine wpo_run rfl rfl rfl h322 ?_
            refine wpo_load1 (v := .slice m.qa m.t.queue.length m.qc) ot_33 rfl (k321.cell rfl) rfl ?_
            refine wpo_run rfl rfl rfl h322 ?_
            refine wpo_len (by kernel_rfl) rfl rfl ?_
            refine wpo_run rfl rfl rfl h322 ?_
            refine wpo_eql (q := decide ((m.t.queue.length : Int) = 0)) rfl rfl rfl rfl ?_
            refine wpo_pickf (v := .bool (decide ((m.t.queue.length : Int) = 0))) rfl h322 rfl rfl ?_
            refine wpo_move (v := .bool (decide ((m.t.queue.length : Int) = 0))) rfl rfl ?_
            rcases bcases (decide ((m.t.queue.length : Int) = 0)) with h333 | h333
            ·
             have h334 := of_decide_eq_true h333
             refine wpo_run rfl rfl rfl h333 ?_
             refine wpo_fieldAddr (o' := 0) fo_35_0 e308 rfl rfl ?_
             refine wpo_run rfl rfl rfl h333 ?_
             refine wpo_load1 (v := .int .i64 m.t.kind) ot_3 rfl (k321.cell rfl) rfl ?_
             refine wpo_run rfl rfl rfl h333 ?_
             refine wpo_eql (q := decide (m.t.kind = 5)) rfl rfl rfl rfl ?_
             refine wpo_run rfl rfl rfl h333 ?_
             refine wpo_move (v := .bool (decide (m.t.kind = 5))) rfl rfl ?_
             rcases bcases (decide (m.t.kind = 5)) with h335 | h335
             ·
              have h336 := of_decide_eq_true h335
              refine wpo_run rfl rfl rfl h335 ?_
              refine wpo_fieldAddr (o' := 7) fo_35_6 e308 rfl rfl ?_
              refine wpo_run rfl rfl rfl h335 ?_
              refine wpo_load1 (v := .int .i64 m.t.to) ot_3 rfl (k321.cell rfl) rfl ?_
              refine wpo_run rfl rfl rfl h335 ?_
              refine wpo_call (vs := [.int .i64 m.t.to, .int .i64 1, .int .i64 8]) gf_46 (args_cons rfl (args_cons rfl (args_cons rfl args_nil))) rfl (l6In_c m.t.to 1 8 _) ?_
              rintro _ w337 ⟨rfl, hg338⟩
              have hb339 := low0 hb311 hg338
              refine wpo_run rfl rfl rfl h333 ?_
              refine wpo_pickt (v := .bool (inR m.t.to 1 8)) rfl h335 rfl rfl ?_
              refine wpo_run rfl rfl rfl h333 ?_
              refine wpo_move (v := .bool (inR m.t.to 1 8)) rfl rfl ?_
              rcases bcases (inR m.t.to 1 8) with h340 | h340
              ·
               iterate 4 refine wpo_pass rfl rfl rfl h340 rfl ?_
               iterate 3 refine wpo_passu rfl rfl rfl rfl ?_
               refine wpo_pass rfl rfl rfl h340 rfl ?_
               refine wpo_run rfl rfl rfl h333 ?_
               refine wpo_pickt (v := .bool true) rfl h340 rfl rfl ?_
               refine wpo_pickt (v := .bool true) rfl h333 rfl rfl ?_
               refine wpo_assign (v := .bool true) rfl rfl ?_
               exact wpo_nil ⟨(congrArg Value.bool (by first | (simp only [h148, h149, h150, h151, h152, h153, h154, h155, h156, h157, h216, h217, h218, h219, h220, h221, h230, h255, h312, h313, h314, h322, h333, h335, h340, b0, b1, b2, b3, b4, b5, b6, b7, b8, b9]; done) | simp [h148, h149, h150, h151, h152, h153, h154, h155, h156, h157, h216, h217, h218, h219, h220, h221, h230, h255, h312, h313, h314, h322, h333, h335, h340])), hg338⟩
              ·
               refine wpo_run rfl rfl rfl h340 ?_
               refine wpo_fieldAddr (o' := 0) fo_35_0 e308 rfl rfl ?_
               refine wpo_run rfl rfl rfl h340 ?_
               have k341 := (k321.grown0 hg338)
               refine wpo_load1 (v := .int .i64 m.t.kind) ot_3 rfl (k341.cell rfl) rfl ?_
               refine wpo_run rfl rfl rfl h340 ?_
               refine wpo_neq (q := !(decide (m.t.kind = 5))) rfl rfl rfl rfl ?_
               refine wpo_run rfl rfl rfl h340 ?_
               refine wpo_move (v := .bool (!(decide (m.t.kind = 5)))) rfl rfl ?_
               iterate 3 refine wpo_pass rfl rfl rfl (not_of_t h335) rfl ?_
               refine wpo_run rfl rfl rfl h340 ?_
               refine wpo_pickf (v := .bool false) rfl (not_of_t h335) rfl rfl ?_
               refine wpo_run rfl rfl rfl h333 ?_
               refine wpo_pickf (v := .bool false) rfl h340 rfl rfl ?_
               refine wpo_pickt (v := .bool false) rfl h333 rfl rfl ?_
               refine wpo_assign (v := .bool false) rfl rfl ?_
               exact wpo_nil ⟨(congrArg Value.bool (by first | (simp only [h148, h149, h150, h151, h152, h153, h154, h155, h156, h157, h216, h217, h218, h219, h220, h221, h230, h255, h312, h313, h314, h322, h333, h335, h340, b0, b1, b2, b3, b4, b5, b6, b7, b8, b9]; done) | simp [h148, h149, h150, h151, h152, h153, h154, h155, h156, h157, h216, h217, h218, h219, h220, h221, h230, h255, h312, h313, h314, h322, h333, h335, h340])), hg338⟩
             ·
              have h342 := of_decide_eq_false h335
              iterate 3 refine wpo_pass rfl rfl rfl h335 rfl ?_
              refine wpo_run rfl rfl rfl h333 ?_
              refine wpo_pickf (v := .bool false) rfl h335 rfl rfl ?_
              refine wpo_run rfl rfl rfl h333 ?_
              refine wpo_move (v := .bool false) rfl rfl ?_
              refine wpo_run rfl rfl rfl rfl ?_
              refine wpo_fieldAddr (o' := 0) fo_35_0 e308 rfl rfl ?_
              refine wpo_run rfl rfl rfl rfl ?_
              refine wpo_load1 (v := .int .i64 m.t.kind) ot_3 rfl (k321.cell rfl) rfl ?_
              refine wpo_run rfl rfl rfl rfl ?_
              refine wpo_neq (q := !(decide (m.t.kind = 5))) rfl rfl rfl rfl ?_
              refine wpo_run rfl rfl rfl rfl ?_
              refine wpo_move (v := .bool (!(decide (m.t.kind = 5)))) rfl rfl ?_
              refine wpo_run rfl rfl rfl (not_of_f h335) ?_
              refine wpo_fieldAddr (o' := 7) fo_35_6 e308 rfl rfl ?_
              refine wpo_run rfl rfl rfl (not_of_f h335) ?_
              refine wpo_load1 (v := .int .i64 m.t.to) ot_3 rfl (k321.cell rfl) rfl ?_
              refine wpo_run rfl rfl rfl (not_of_f h335) ?_
              refine wpo_eql (q := decide (m.t.to = 0)) rfl rfl rfl rfl ?_
              refine wpo_run rfl rfl rfl rfl ?_
              refine wpo_pickt (v := .bool (decide (m.t.to = 0))) rfl (not_of_f h335) rfl rfl ?_
              refine wpo_run rfl rfl rfl h333 ?_
              refine wpo_pickf (v := .bool (decide (m.t.to = 0))) rfl rfl rfl rfl ?_
              refine wpo_pickt (v := .bool (decide (m.t.to = 0))) rfl h333 rfl rfl ?_
              refine wpo_assign (v := .bool (decide (m.t.to = 0))) rfl rfl ?_
              exact wpo_nil ⟨(congrArg Value.bool (by first | (simp only [h148, h149, h150, h151, h152, h153, h154, h155, h156, h157, h216, h217, h218, h219, h220, h221, h230, h255, h312, h313, h314, h322, h333, h335, b0, b1, b2, b3, b4, b5, b6, b7, b8, b9]; done) | simp [h148, h149, h150, h151, h152, h153, h154, h155, h156, h157, h216, h217, h218, h219, h220, h221, h230, h255, h312, h313, h314, h322, h333, h335])), (World.grownBy.refl _ _)⟩
            ·
             have h343 := of_decide_eq_false h333
             iterate 4 refine wpo_pass rfl rfl rfl h333 rfl ?_
             iterate 3 refine wpo_passu rfl rfl rfl rfl ?_
             refine wpo_pass rfl rfl rfl h333 rfl ?_
             refine wpo_pass rfl rfl rfl h333 rfl ?_
             iterate 8 refine wpo_passu rfl rfl rfl rfl ?_
             refine wpo_pass rfl rfl rfl h333 rfl ?_
             refine wpo_pickf (v := .bool false) rfl h333 rfl rfl ?_
             refine wpo_assign (v := .bool false) rfl rfl ?_
             exact wpo_nil ⟨(congrArg Value.bool (by first | (simp only [h148, h149, h150, h151, h152, h153, h154, h155, h156, h157, h216, h217, h218, h219, h220, h221, h230, h255, h312, h313, h314, h322, h333, b0, b1, b2, b3, b4, b5, b6, b7, b8, b9]; done) | simp [h148, h149, h150, h151, h152, h153, h154, h155, h156, h157, h216, h217, h218, h219, h220, h221, h230, h255, h312, h313, h314, h322, h333])), (World.grownBy.refl _ _)⟩
          ·
           rintro f344 w345 ⟨e346, hg347⟩
           have hb348 := low0 hb311 hg347
           refine wpf_ret ?_
           refine ⟨.bool (((decide (m.t.kind = 4)) || (decide ((m.t.queue.length : Int) = 0))) && (((decide (m.t.kind = 5)) && inR m.t.to 1 8) || ((!(decide (m.t.kind = 5))) && (decide (m.t.to = 0))))), res1 rfl e346, ?_, hb348⟩
           exact congrArg Value.bool (th_e h148 h216 (all_of_take (p := numQ) ha (by omega)) (all_of_take (p := rightOk) hb (by omega)) h312)
end Go.Dw.J
end
section
namespace Go.Dw.J
open Go.RowKit Go.Dw Go.Proofs
set_option linter.unusedSectionVars false
set_option maxRecDepth 100000
set_option maxHeartbeats 4000000
set_option linter.unusedSimpArgs false
set_option linter.unusedVariables false
theorem fo_50_0 : fieldOff Try.prog 50 0 = some 0 := by kernel_rfl
theorem fo_50_1 : fieldOff Try.prog 50 1 = some 1 := by kernel_rfl
theorem gf_106 : goFn Try.prog 106 = true := by kernel_rfl
theorem gf_107 : goFn Try.prog 107 = true := by kernel_rfl
theorem gf_108 : goFn Try.prog 108 = true := by kernel_rfl
theorem gf_20 : goFn Try.prog 20 = true := by kernel_rfl
theorem gf_45 : goFn Try.prog 45 = true := by kernel_rfl
theorem gf_47 : goFn Try.prog 47 = true := by kernel_rfl
theorem gf_96 : goFn Try.prog 96 = true := by kernel_rfl
theorem zt_25 : zeroTy Try.prog 25 = some (.agg #[.int .i64 0, .int .i64 0]) := by kernel_rfl
theorem zt_35 : zeroTy Try.prog 35 = some (.agg #[.int .i64 0, .int .i64 0, .int .i64 0, .int .i64 0, .int .i64 0, .slice none 0 0, .slice none 0 0, .int .i64 0]) := by kernel_rfl
theorem copyR_c [Comp] (w : World) (xs : List Rt) (a : Option Addr) (c : Nat) (hs : SlAt w a 5 (xs.map Rt.cells)) (hc : a = none → c = 0) (hn : xs.length ≤ 1048576) : CallsR Try.prog 96 #[.slice a xs.length c] w (fun v w' => ∃ (a' : Option Addr) (cap' : Nat), v = .slice a' xs.length cap' ∧ OwnN w.heap.size w' a' 74 5 cap' xs.length (xs.flatMap Rt.cells) ∧ w.grownBy w' none) := by
 refine calls_of_wpf (n := 5) Try.func96 rfl Try.ntmps96 rfl ?_
 have hb0 := World.grownBy.refl w none
 refine wpf_seq_region ?_
 refine wpo_assign (v := .slice none 0 0) rfl rfl ?_
 refine wpo_nil ?_
 refine wpf_seq_region ?_
 refine wpo_move (v := .slice a xs.length c) rfl rfl ?_
 refine wpo_appendN (g := Rt.cells) (ys := []) (zs := xs) (lo := w.heap.size) mk_32 rfl wide_rt (by omega) onec_rt rfl rfl OwnN.nil (SlAt.low hs hb0) hc (by first | omega | exact Nat.le_of_ble_eq_true rfl | (simp only [List.length_nil, List.length_cons, List.length_append, List.length_replicate]; omega)) (by omega) hb0.size rfl ?_
 intro a101 cap102 w103 hO104 hg105 hor106
 have hb107 := low0 hb0 hg105
 refine wpo_assign (v := .slice a101 xs.length cap102) rfl rfl ?_
 refine wpo_nil ?_
 refine wpf_ret ?_
 refine ⟨.slice a101 xs.length cap102, res1 rfl rfl, a101, cap102, rfl, hO104, hb107⟩
theorem list4_c [Comp] (w : World) : CallsR Try.prog 47 #[.agg #[.int .i64 0, .int .i64 0, .bool false, .bool false, .bool false, .int .i64 0, .int .i64 0, .bool false, .bool false, .bool false, .int .i64 0, .int .i64 0, .bool false, .bool false, .bool false, .int .i64 0, .int .i64 0, .bool false, .bool false, .bool false]] w (fun v w' => ∃ (B cap : Nat), v = .slice (some ⟨B, 0, none⟩) 4 cap ∧ w.heap.size ≤ B ∧ Dw.Own w' B 74 5 cap 4 (zeros4.flatMap Rt.cells) ∧ w.grownBy w' none) := by
 refine calls_of_wpf (n := 5) Try.func47 rfl Try.ntmps47 rfl ?_
 have hb0 := World.grownBy.refl w none
 refine wpf_seq_region ?_
 refine wpo_box (v := .agg #[.int .i64 0, .int .i64 0, .bool false, .bool false, .bool false, .int .i64 0, .int .i64 0, .bool false, .bool false, .bool false, .int .i64 0, .int .i64 0, .bool false, .bool false, .bool false, .int .i64 0, .int .i64 0, .bool false, .bool false, .bool false]) (cs := #[.int .i64 0, .int .i64 0, .bool false, .bool false, .bool false, .int .i64 0, .int .i64 0, .bool false, .bool false, .bool false, .int .i64 0, .int .i64 0, .bool false, .bool false, .bool false, .int .i64 0, .int .i64 0, .bool false, .bool false, .bool false]) rfl rfl rfl ?_
 intro B101 w102 hN103
 have hlB101 := hN_ge hN103 hb0
 have hb104 := low0 hb0 hN103.grw
 refine wpo_assign (v := .slice none 0 0) rfl rfl ?_
 refine wpo_nil ?_
 refine wpf_seq_region ?_
 have k105 : Blk w102 B101 77 (zeros4.flatMap Rt.cells).toArray := hN103.blk
 refine wpo_sliceArr at_77 rfl (by omega) rfl ?_
 refine wpo_call (vs := [.slice (some ⟨B101, 0, none⟩) 4 4]) gf_96 (args_cons rfl args_nil) rfl (copyR_c _ zeros4 _ _ (rows_sl wide_rt k105) (fun h => by cases h) (by first | omega | exact Nat.le_of_ble_eq_true rfl | (simp only [List.length_nil, List.length_cons, List.length_append, List.length_replicate]; omega))) ?_
 rintro _ w110 ⟨a106, cap107, rfl, hO108, hg109⟩
 have hb111 := low0 hb104 hg109
 have hO112 := OwnN.mono hO108 hb104.size
 refine wpo_assign (v := .slice a106 4 cap107) rfl rfl ?_
 refine wpo_nil ?_
 refine wpf_ret ?_
 obtain ⟨B113, h114, h115, h116⟩ := OwnN.some_ hO112 (by decide)
 refine ⟨.slice a106 4 cap107, res1 rfl rfl, B113, cap107, by rw [h114], h115, h116, hb111⟩
end Go.Dw.J
end
