/-
  A rule for each operation of the calculus: what it yields, and what it does to the memory that is known.
-/
import Derived.Test.YtemimomfjapgiaaDoorW
import Derived.Deep.MidRow
import Derived.IntWalk
namespace Go.Dw
open Go.RowKit

/-! ### memory -/
/-- Block 'b' is known whole. -/
def Blk (w : World) (b : Nat) (T : TypeId) (cs : Array Value) : Prop := w.heap[b]? = some (.cells cs T (0, 0))
section
variable {w w' : World} {b : Nat} {T : TypeId} {cs : Array Value}
theorem Blk.lt (h : Blk w b T cs) : b < w.heap.size := (Array.getElem?_eq_some_iff.1 h).1
theorem Blk.cell (h : Blk w b T cs) {i : Nat} {v : Value} (hv : cs[i]? = some v) : w.cell? ⟨b, i, none⟩ = some v := by
  unfold Blk at h
  simp [World.cell?, h, hv]
theorem Blk.froz (h : Blk w b T cs) (i : Nat) : w.frozen? ⟨b, i, none⟩ = false := by
  unfold Blk at h
  simp [World.frozen?, h]
theorem Blk.range (h : Blk w b T cs) {o : Nat} {vs : List Value} (hv : ∀ j v, vs[j]? = some v → cs[o + j]? = some v) : w.rangeAt b o vs := fun j v hj => h.cell (hv j v hj)
theorem Blk.all (h : Blk w b T cs) : w.rangeAt b 0 cs.toList := h.range fun j v hj => by simpa using hj
theorem Blk.grown (h : Blk w b T cs) {r : Option Nat} (hg : w.grownBy w' r) (hne : some b ≠ r) : Blk w' b T cs := (hg.block b h.lt hne).trans h
theorem Blk.grown0 (h : Blk w b T cs) (hg : w.grownBy w' none) : Blk w' b T cs := h.grown hg (by simp)
theorem range_grown {o : Nat} {vs : List Value} (h : w.rangeAt b o vs) {r : Option Nat} (hg : w.grownBy w' r) (hne : some b ≠ r) : w'.rangeAt b o vs := fun j v hj =>
  hg.cell (h j v hj) hne
end
/-- A new block. -/
structure NewB (w w' : World) (B : Nat) (T : TypeId) (cs : Array Value) : Prop where
  eq : B = w.heap.size
  blk : Blk w' B T cs
  grw : w.grownBy w' none
  sz : w'.heap.size = w.heap.size + 1
/-- A block that is known is written. -/
structure SetB (w w' : World) (b : Nat) (T : TypeId) (cs : Array Value) : Prop where
  blk : Blk w' b T cs
  grw : w.grownBy w' (some b)
  sz : w'.heap.size = w.heap.size
theorem newB_alloc (w : World) (T : TypeId) (cs : Array Value) : NewB w (w.alloc (.cells cs T)) w.heap.size T cs :=
  ⟨rfl, by show (w.heap.push _)[w.heap.size]? = _; simp, World.grownBy_alloc _ _ _, by simp⟩
theorem setB_setRow {w : World} {b : Nat} {T : TypeId} {cs : Array Value} (h : Blk w b T cs) (cs' : Array Value) : SetB w (w.setRow b cs') b T cs' :=
  ⟨setRow_heap w b cs cs' T _ h, ⟨rfl, rfl, rfl, by simp [World.setRow], fun i _ hne => by
    have : b ≠ i := fun e => hne (by rw [e])
    simp [World.setRow, Array.getElem?_modify, this]⟩, by simp [World.setRow]⟩
theorem grown_trans {a b c : World} {r : Option Nat} (h : a.grownBy b r) (k : b.grownBy c r) : a.grownBy c r :=
  ⟨k.os.trans h.os, k.tape.trans h.tape, k.output.trans h.output, Nat.le_trans h.size k.size, fun i hi hne => (k.block i (Nat.lt_of_lt_of_le hi h.size) hne).trans (h.block i hi hne)⟩
theorem below_of_grown {w w' : World} {r : Option Nat} {B : Nat} (hg : w.grownBy w' r) (hB : B ≤ w.heap.size) (hr : ∀ k, r = some k → B ≤ k) : Below B w w' :=
  (Below.refl B w).grown hg hB hr
theorem below_none {w w' : World} {B : Nat} (hg : w.grownBy w' none) (hB : B ≤ w.heap.size) : Below B w w' := below_of_grown hg hB (by simp)
theorem below_some {w w' : World} {B b : Nat} (hg : w.grownBy w' (some b)) (hB : B ≤ w.heap.size) (hb : B ≤ b) : Below B w w' := below_of_grown hg hB (by simp; omega)
theorem grown_of_below {w w' : World} (h : Below w.heap.size w w') : w.grownBy w' none := ⟨h.os, h.tape, h.output, h.size, fun i hi _ => h.block i hi⟩

theorem low0 {w a b : World} {r : Option Nat} (h : w.grownBy a r) (hg : a.grownBy b none) : w.grownBy b r :=
  ⟨hg.os.trans h.os, hg.tape.trans h.tape, hg.output.trans h.output, Nat.le_trans h.size hg.size, fun i hi hne => (hg.block i (Nat.lt_of_lt_of_le hi h.size) (by simp)).trans (h.block i hi hne)⟩
theorem low1 {w a b : World} {r : Option Nat} {c : Nat} (h : w.grownBy a r) (hg : a.grownBy b (some c)) (hc : w.heap.size ≤ c) : w.grownBy b r :=
  ⟨hg.os.trans h.os, hg.tape.trans h.tape, hg.output.trans h.output, Nat.le_trans h.size hg.size, fun i hi hne => (hg.block i (Nat.lt_of_lt_of_le hi h.size) (by simp; omega)).trans (h.block i hi hne)⟩
theorem hN_ge {w a b : World} {r : Option Nat} {B : Nat} {T : TypeId} {cs : Array Value} (h : NewB a b B T cs) (hl : w.grownBy a r) : w.heap.size ≤ B := by rw [h.eq]; exact hl.size
theorem hN_gt {a b : World} {B C : Nat} {T U : TypeId} {cs ds : Array Value} (h : NewB a b B T cs) (hk : Blk a C U ds) : C < B := by rw [h.eq]; exact hk.lt
theorem some_ne {a b : Nat} (h : a ≠ b) : some a ≠ some b := fun e => h (by injection e)
theorem Blk.gn {w w' : World} {b r : Nat} {T : TypeId} {cs : Array Value} (h : Blk w b T cs) (hg : w.grownBy w' (some r)) (hne : b ≠ r := by omega) : Blk w' b T cs := h.grown hg (some_ne hne)
theorem Blk.rangeL {w : World} {b : Nat} {T : TypeId} {cs : Array Value} (h : Blk w b T cs) (o k : Nat) {vs : List Value} (e : (cs.toList.drop o).take k = vs) : w.rangeAt b o vs :=
  h.range fun j v hj => by
    rw [← e, List.getElem?_take] at hj
    split at hj
    · rw [List.getElem?_drop] at hj; simpa using hj
    · cases hj
theorem range_sub {w : World} {b o : Nat} {us : List Value} (h : w.rangeAt b o us) (j k : Nat) {vs : List Value} (e : (us.drop j).take k = vs) : w.rangeAt b (o + j) vs := fun i v hi => by
  rw [← e, List.getElem?_take] at hi
  split at hi
  · rw [List.getElem?_drop] at hi
    rw [Nat.add_assoc]
    exact h _ _ hi
  · cases hi
theorem range_low {w w' : World} {b o : Nat} {vs : List Value} (h : w.rangeAt b o vs) (hb : w.grownBy w' none) : w'.rangeAt b o vs := range_grown h hb (by simp)
theorem bcases (b : Bool) : b = true ∨ b = false := by cases b <;> simp
theorem nt_t {b : Bool} (h : (!b) = true) : b = false := by simpa using h
theorem nt_f {b : Bool} (h : (!b) = false) : b = true := by simpa using h
theorem not_of_t {b : Bool} (h : b = true) : (!b) = false := by simp [h]
theorem not_of_f {b : Bool} (h : b = false) : (!b) = true := by simp [h]
theorem and_l {a b : Bool} (h : (a && b) = true) : a = true := by simp at h; exact h.1
theorem and_r {a b : Bool} (h : (a && b) = true) : b = true := by simp at h; exact h.2
theorem or_l {a b : Bool} (h : (a || b) = false) : a = false := by simp at h; exact h.1
theorem or_r {a b : Bool} (h : (a || b) = false) : b = false := by simp at h; exact h.2
theorem beqd {α : Type} [DecidableEq α] (a b : α) : (a == b) = decide (a = b) := by
  by_cases h : a = b <;> simp [h]
theorem args_nil {f : Fr} : ([] : List Operand).map (ev f) = [] := rfl
theorem args_cons {f : Fr} {x : Operand} {xs : List Operand} {v : Value} {vs : List Value} (h : ev f x = v) (t : xs.map (ev f) = vs) : (x :: xs).map (ev f) = v :: vs := by simp [h, t]
theorem parts_nil {f : Fr} : ([] : List (Nat × Operand)).map (fun p => (p.1, ev f p.2)) = [] := rfl
theorem parts_cons {f : Fr} {i : Nat} {x : Operand} {xs : List (Nat × Operand)} {v : Value} {vs : List (Nat × Value)} (h : ev f x = v) (t : xs.map (fun p => (p.1, ev f p.2)) = vs) :
    ((i, x) :: xs).map (fun p => (p.1, ev f p.2)) = (i, v) :: vs := by simp [h, t]

/-- A slice whose elements are known: each is 'sz' cells. -/
def SlAt (w : World) (a : Option Addr) (sz : Nat) (xs : List (List Value)) : Prop := ∀ k x, xs[k]? = some x → ∃ b o, a = some ⟨b, o, none⟩ ∧ w.rangeAt b (o + k * sz) x
theorem SlAt.low {w w' : World} {a : Option Addr} {sz : Nat} {xs : List (List Value)} (h : SlAt w a sz xs) (hb : w.grownBy w' none) : SlAt w' a sz xs := fun k x hk => by
  obtain ⟨b, o, ha, hr⟩ := h k x hk
  exact ⟨b, o, ha, range_low hr hb⟩
theorem SlAt.at {w : World} {a : Option Addr} {sz k : Nat} {xs : List (List Value)} {x : List Value} (h : SlAt w a sz xs) (hk : xs[k]? = some x) : ∃ b q o, a = some ⟨b, q, none⟩ ∧ q + k * sz = o ∧ w.rangeAt b o x := by
  obtain ⟨b, o, ha, hr⟩ := h k x hk
  exact ⟨b, o, _, ha, rfl, hr⟩
theorem get_lt {α : Type} {l : List α} {i : Nat} (h : i < l.length) : ∃ x, l[i]? = some x := ⟨_, List.getElem?_eq_getElem h⟩
theorem map_get {α β : Type} {g : α → β} {l : List α} {i : Nat} {x : α} (h : l[i]? = some x) : (l.map g)[i]? = some (g x) := by simp [h]

/-! ### facts on types, asked of the program by the kernel -/
def fieldOff (P : Program) (s : TypeId) (k : Nat) : Option Nat :=
  match P.underlying s with
  | some (.struct fs) => match fs[k]? with
    | some fl => match P.info? fl.type with
      | some i => if i.size = 0 then none else some fl.offset
      | none => none
    | none => none
  | _ => none
def oneTy (P : Program) (t : TypeId) : Bool :=
  match P.underlying t with
  | some (.struct _) | some (.array _ _) | none => false
  | _ => match P.info? t with | some i => i.size == 1 | none => false
def rowTy (P : Program) (t : TypeId) : Option Nat :=
  match P.underlying t with
  | some (.struct _) | some (.array _ _) => (P.info? t).map (·.size)
  | _ => none
def zeroTy (P : Program) (t : TypeId) : Option Value := (P.info? t).bind (·.zero)
def goFn (P : Program) (k : FuncId) : Bool :=
  match P.funcs[k]? with
  | some fn => fn.body.isSome && !(fn.name == "runtime.NumGoroutine")
  | none => false
def elemSz (P : Program) (t : TypeId) : Option Nat :=
  match P.underlying t with
  | some (.slice e) => (P.info? e).map (·.size)
  | _ => none
section
variable {P : Program} {w : World}
theorem run_fieldAt {s k j b o o' : Nat} (h : fieldOff P s k = some j) (e : o + j = o') : (Instr.fieldAt s (.pointer (some ⟨b, o, none⟩)) k).run P w = .ok (.pointer (some ⟨b, o', none⟩)) w := by
  unfold fieldOff at h
  split at h
  · rename_i fs hu
    split at h
    · rename_i fl hfl
      split at h
      · rename_i i hi
        split at h
        · cases h
        · rename_i hz
          obtain rfl := Option.some.inj h
          simp [Instr.fieldAt, run_underlying hu, hfl, Instr.sureAddr, fieldPlace, sizeOf, typeInfo, hi, hz, Addr.add_mid, e]
      · cases h
    · cases h
  · cases h
theorem run_isAgg1 {t : TypeId} (h : oneTy P t = true) : (isAgg t).run P w = .ok false w := by
  unfold oneTy at h
  split at h
  · cases h
  · cases h
  · cases h
  · rename_i d h1 h2 h3
    cases hu : P.underlying t with
    | none => exact absurd hu h3
    | some d =>
      unfold isAgg
      rw [Sem.run_bind, run_underlying hu w]
      cases d <;> first | rfl | exact absurd hu (h1 _) | exact absurd hu (h2 _ _)
theorem size_oneTy {t : TypeId} (h : oneTy P t = true) : (sizeOf t).run P w = .ok 1 w := by
  unfold oneTy at h
  split at h
  · cases h
  · cases h
  · cases h
  · split at h
    · rename_i i hi
      have : i.size = 1 := by simpa using h
      simp [sizeOf, typeInfo, hi, this]
    · cases h
theorem run_load1 {t : TypeId} (h : oneTy P t = true) {a : Addr} {v : Value} (hc : w.cell? a = some v) : (Instr.loadAt t (.pointer (some a))).run P w = .ok v w := by
  simp [Instr.loadAt, Instr.sureAddr, loadVar, run_isAgg1 h, hc]
theorem rowTy_spec {t k : Nat} (h : rowTy P t = some k) : ∃ d, P.underlying t = some d ∧ d.isRow = true ∧ (P.info? t).map (·.size) = some k := by
  unfold rowTy at h
  split at h
  · rename_i fs hu; exact ⟨_, hu, rfl, h⟩
  · rename_i m e hu; exact ⟨_, hu, rfl, h⟩
  · cases h
theorem run_loadn {t k b o : Nat} {vs : List Value} (h : rowTy P t = some k) (hl : vs.length = k) (hr : w.rangeAt b o vs) :
    (Instr.loadAt t (.pointer (some ⟨b, o, none⟩))).run P w = .ok (.agg vs.toArray) w := by
  obtain ⟨d, hu, hd, hs⟩ := rowTy_spec h
  exact run_loadAt_mid w b o t vs d hr hu hd (by rw [hs, hl])
theorem run_store1 {t b o : Nat} {T : TypeId} {cs : Array Value} {v : Value} (h : oneTy P t = true) (h1 : v.oneCell' = true) (hb : Blk w b T cs) (ho : o < cs.size) :
    (Instr.storeAt t (.pointer (some ⟨b, o, none⟩)) v).run P w = .ok () (w.setRow b (cs.setIfInBounds o v)) := by
  have hc : v.cells = #[v] := by cases v <;> first | rfl | cases h1
  have hcell : w.cell? ⟨b, o, none⟩ = some cs[o] := hb.cell (by simp [ho])
  have hst : (store (⟨b, o, none⟩ : Addr) v).run P w = .ok () (w.setRow b (cs.setIfInBounds o v)) := by
    rw [run_store P w _ v _ h1, hcell]
    simp [hb.froz o, setCell_eq_setRow w b o cs T (0, 0) v hb]
  simp [Instr.storeAt, Instr.sureAddr, storeVar, size_oneTy h, hc, storeCells, Addr.add_mid, hst]
theorem run_storen {t k b o : Nat} {T : TypeId} {cs : Array Value} {vs : List Value} (h : rowTy P t = some k) (hl : vs.length = k) (h1 : ∀ v ∈ vs, v.oneCell' = true) (hb : Blk w b T cs) (ho : o + k ≤ cs.size) :
    (Instr.storeAt t (.pointer (some ⟨b, o, none⟩)) (.agg vs.toArray)).run P w = .ok () (w.setRow b (cs.toList.take o ++ vs ++ cs.toList.drop (o + k)).toArray) := by
  obtain ⟨d, _, _, hs⟩ := rowTy_spec h
  cases hq : P.info? t with
  | none => simp [hq] at hs
  | some i =>
    have hi : i.size = k := by simpa [hq] using hs
    have := run_storeCells_at (P := P) b o T vs 0 cs w hb (by omega) h1
    simp only [Nat.add_zero, hl] at this
    simp [Instr.storeAt, Instr.sureAddr, storeVar, sizeOf, typeInfo, hq, hi, Value.cells, hl, this]
theorem run_zero {t : TypeId} {z : Value} (h : zeroTy P t = some z) : (zeroValue t).run P w = .ok z w := by
  unfold zeroTy at h
  cases hq : P.info? t with
  | none => simp [hq] at h
  | some i =>
    have hz : i.zero = some z := by simpa [hq] using h
    simp [zeroValue, typeInfo, hq, hz]
theorem run_index {t sz b o : Nat} {len cap : Nat} {k : IntKind} {i : Int} (h : elemSz P t = some sz) (h0 : 0 ≤ i) (h1 : i < len) {o' : Nat} (e : o + i.toNat * sz = o') :
    (Instr.indexAt t (.slice (some ⟨b, o, none⟩) len cap) (.int k i)).run P w = .ok (.pointer (some ⟨b, o', none⟩)) w := by
  unfold elemSz at h
  split at h
  · rename_i el hu
    cases hq : P.info? el with
    | none => simp [hq] at h
    | some inf =>
      have hs : inf.size = sz := by simpa [hq] using h
      simp [Instr.indexAt, run_underlying hu, asIntOf, h0, h1, sizeOf, typeInfo, hq, hs, Addr.add_mid, e]
  · cases h
theorem run_callGo {k : FuncId} (h : goFn P k = true) (args : Array Value) : (callFunc k args).run P w = .ok (.enter k args) w := by
  unfold goFn at h
  split at h
  · rename_i fn hf
    simp only [Bool.and_eq_true, Bool.not_eq_true'] at h
    obtain ⟨hb, hn⟩ := h
    have hb' : fn.body.isNone = false := by cases hh : fn.body <;> simp_all
    have hn' : ¬ fn.name = "runtime.NumGoroutine" := by simpa using hn
    unfold callFunc
    rw [Sem.run_bind, run_program, Result.andThen_ok]
    simp [hf, hn', hb']
  · cases h
end

/-! ### results that lie in cells -/
def resCell (P : Program) (f : Fr) (w : World) (t : Nat) (T : TypeId) (v : Value) : Prop := ∃ a, f t = .pointer (some a) ∧ (loadVar T a).run P w = .ok v w
section
variable {P : Program} {fn : Func} {f : Fr} {w : World}
theorem resCell_mk {t T k b o : Nat} {vs : List Value} (ht : rowTy P T = some k) (hf : f t = .pointer (some ⟨b, o, none⟩)) (hl : vs.length = k) (hr : w.rangeAt b o vs) : resCell P f w t T (.agg vs.toArray) := by
  obtain ⟨d, hu, hd, hs⟩ := rowTy_spec ht
  exact ⟨_, hf, run_loadVar_mid w b o T vs d hr hu hd (by rw [hs, hl])⟩
theorem resC {t T : Nat} {v : Value} (h : fn.results = #[.cell t T]) (hc : resCell P f w t T v) : resV P fn f w v := fun tm ht => by
  obtain ⟨a, hf, hl⟩ := hc
  simp [results, h, ht, hf, asAddr, hl]
theorem resTC {s t T : Nat} {u v : Value} (h : fn.results = #[.tmp s, .cell t T]) (hs : f s = u) (hc : resCell P f w t T v) : resV P fn f w (.tuple #[u, v]) := fun tm ht => by
  obtain ⟨a, hf, hl⟩ := hc
  simp [results, h, ht, hf, hs, asAddr, hl]
theorem resCT {s t T : Nat} {u v : Value} (h : fn.results = #[.cell t T, .tmp s]) (hc : resCell P f w t T v) (hs : f s = u) : resV P fn f w (.tuple #[v, u]) := fun tm ht => by
  obtain ⟨a, hf, hl⟩ := hc
  simp [results, h, ht, hf, hs, asAddr, hl]
theorem resTCT {s t T r : Nat} {u v x : Value} (h : fn.results = #[.tmp s, .cell t T, .tmp r]) (hs : f s = u) (hc : resCell P f w t T v) (hr : f r = x) : resV P fn f w (.tuple #[u, v, x]) := fun tm ht => by
  obtain ⟨a, hf, hl⟩ := hc
  simp [results, h, ht, hf, hs, hr, asAddr, hl]
theorem resTTC {s t T r : Nat} {u v x : Value} (h : fn.results = #[.tmp s, .tmp r, .cell t T]) (hs : f s = u) (hr : f r = x) (hc : resCell P f w t T v) : resV P fn f w (.tuple #[u, x, v]) := fun tm ht => by
  obtain ⟨a, hf, hl⟩ := hc
  simp [results, h, ht, hf, hs, hr, asAddr, hl]
end

/-! ### the operations -/
/-- A call that returns. -/
def CallsR (P : Program) (k : FuncId) (args : Array Value) (w : World) (R : Value → World → Prop) : Prop := Calls P k args w fun e w' => ∃ v, e = .returned v ∧ R v w'
theorem CallsR.mono {P : Program} {k : FuncId} {args : Array Value} {w : World} {R R' : Value → World → Prop} (h : CallsR P k args w R) (hr : ∀ v w', R v w' → R' v w') : CallsR P k args w R' :=
  Calls.mono h fun _ _ ⟨v, he, hR⟩ => ⟨v, he, hr _ _ hR⟩
section
variable {P : Program} {n : Nat} {ops : Array Oper} {K : Fr → World → Prop} {l : List Oper} {f : Fr} {w w' : World} {ty : TypeId} {pos : String} {aft : Array Edge} {d : Nat}
theorem wpo_move {x : Operand} {v : Value} (hx : ev f x = v) (hd : Nat.blt d n = true) (h : WpO P n ops K l (up f d v) w) : WpO P n ops K (⟨some d, .move x, ty, pos, aft, none⟩ :: l) f w :=
  wpo_val rfl hd (by simp [execOp, hx]) h
theorem wpo_assign {x : Operand} {v : Value} (hx : ev f x = v) (hd : Nat.blt d n = true) (h : WpO P n ops K l (up f d v) w) : WpO P n ops K (⟨some d, .assign x, ty, pos, aft, none⟩ :: l) f w :=
  wpo_val rfl hd (by simp [execOp, hx]) h
theorem wpo_pickt {c x y : Operand} {b : Bool} {v : Value} (hc : ev f c = .bool b) (hb : b = true) (hx : ev f x = v) (hd : Nat.blt d n = true) (h : WpO P n ops K l (up f d v) w) :
    WpO P n ops K (⟨some d, .pick c x y, ty, pos, aft, none⟩ :: l) f w :=
  wpo_val rfl hd (by simp [execOp, hc, hb, hx, asBool]) h
theorem wpo_pickf {c x y : Operand} {b : Bool} {v : Value} (hc : ev f c = .bool b) (hb : b = false) (hy : ev f y = v) (hd : Nat.blt d n = true) (h : WpO P n ops K l (up f d v) w) :
    WpO P n ops K (⟨some d, .pick c x y, ty, pos, aft, none⟩ :: l) f w :=
  wpo_val rfl hd (by simp [execOp, hc, hb, hy, asBool]) h
theorem wpo_box {T : TypeId} {x : Operand} {v : Value} {cs : Array Value} (hx : ev f x = v) (hcs : v.cells = cs) (hd : Nat.blt d n = true)
    (h : ∀ B w', NewB w w' B T cs → WpO P n ops K l (up f d (.pointer (some ⟨B, 0, none⟩))) w') : WpO P n ops K (⟨some d, .box T x, ty, pos, aft, none⟩ :: l) f w :=
  wpo_val rfl hd (by simp [execOp, hx, Instr.box, newVar, newRow, newObj, hcs]; rfl) (h _ _ (newB_alloc w T cs))
theorem wpo_alloc {T : TypeId} {z : Value} {cs : Array Value} (hz : zeroTy P T = some z) (hcs : z.cells = cs) (hd : Nat.blt d n = true)
    (h : ∀ B w', NewB w w' B T cs → WpO P n ops K l (up f d (.pointer (some ⟨B, 0, none⟩))) w') : WpO P n ops K (⟨some d, .alloc T, ty, pos, aft, none⟩ :: l) f w :=
  wpo_val rfl hd (by simp [execOp, Instr.alloc, run_zero hz, newVar, newRow, newObj, hcs]; rfl) (h _ _ (newB_alloc w T cs))
theorem wpo_load1 {t : TypeId} {x : Operand} {a : Addr} {v : Value} (ht : oneTy P t = true) (hx : ev f x = .pointer (some a)) (hc : w.cell? a = some v) (hd : Nat.blt d n = true)
    (h : WpO P n ops K l (up f d v) w) : WpO P n ops K (⟨some d, .load t x, ty, pos, aft, none⟩ :: l) f w :=
  wpo_val rfl hd (by simp [execOp, hx, run_load1 ht hc]) h
theorem wpo_loadn {t k b o : Nat} {x : Operand} {vs : List Value} (ht : rowTy P t = some k) (hx : ev f x = .pointer (some ⟨b, o, none⟩)) (hl : vs.length = k) (hr : w.rangeAt b o vs) (hd : Nat.blt d n = true)
    (h : WpO P n ops K l (up f d (.agg vs.toArray)) w) : WpO P n ops K (⟨some d, .load t x, ty, pos, aft, none⟩ :: l) f w :=
  wpo_val rfl hd (by simp [execOp, hx, run_loadn ht hl hr]) h
theorem wpo_store1 {t b o : Nat} {x y : Operand} {T : TypeId} {cs cs' : Array Value} {v : Value} (ht : oneTy P t = true) (hx : ev f x = .pointer (some ⟨b, o, none⟩)) (hy : ev f y = v) (h1 : v.oneCell' = true)
    (hb : Blk w b T cs) (ho : o < cs.size) (hcs : cs.setIfInBounds o v = cs') (h : ∀ w', SetB w w' b T cs' → WpO P n ops K l f w') : WpO P n ops K (⟨none, .store t x y, ty, pos, aft, none⟩ :: l) f w :=
  wpo_unit rfl rfl (by simp [execOp, hx, hy, run_store1 ht h1 hb ho, hcs]) (h _ (setB_setRow hb cs'))
theorem wpo_storen {t k b o : Nat} {x y : Operand} {T : TypeId} {cs cs' : Array Value} {vs : List Value} (ht : rowTy P t = some k) (hx : ev f x = .pointer (some ⟨b, o, none⟩)) (hy : ev f y = .agg vs.toArray) (hl : vs.length = k)
    (h1 : ∀ v ∈ vs, v.oneCell' = true) (hb : Blk w b T cs) (ho : o + k ≤ cs.size) (hcs : (cs.toList.take o ++ vs ++ cs.toList.drop (o + k)).toArray = cs') (h : ∀ w', SetB w w' b T cs' → WpO P n ops K l f w') :
    WpO P n ops K (⟨none, .store t x y, ty, pos, aft, none⟩ :: l) f w :=
  wpo_unit rfl rfl (by simp only [execOp, hx, hy, Sem.run_bind, run_storen ht hl h1 hb ho, hcs, Result.andThen_ok]; rfl) (h _ (setB_setRow hb cs'))
theorem wpo_fieldAddr {s k j b o o' : Nat} {x : Operand} (hf : fieldOff P s k = some j) (hx : ev f x = .pointer (some ⟨b, o, none⟩)) (e : o + j = o') (hd : Nat.blt d n = true)
    (h : WpO P n ops K l (up f d (.pointer (some ⟨b, o', none⟩))) w) : WpO P n ops K (⟨some d, .fieldAddr s x k, ty, pos, aft, none⟩ :: l) f w :=
  wpo_val rfl hd (by simp [execOp, hx, run_fieldAt hf e]) h
theorem wpo_indexAddr {t sz b o o' len cap : Nat} {x y : Operand} {k : IntKind} {i : Int} (ht : elemSz P t = some sz) (hx : ev f x = .slice (some ⟨b, o, none⟩) len cap) (hy : ev f y = .int k i) (h0 : 0 ≤ i) (h1 : i < len)
    (e : o + i.toNat * sz = o') (hd : Nat.blt d n = true) (h : WpO P n ops K l (up f d (.pointer (some ⟨b, o', none⟩))) w) : WpO P n ops K (⟨some d, .indexAddr t x y, ty, pos, aft, none⟩ :: l) f w :=
  wpo_val rfl hd (by simp [execOp, hx, hy, run_index ht h0 h1 e]) h
theorem wpo_indexE {t sz len cap b q o' : Nat} {a : Option Addr} {x y : Operand} {k : IntKind} {i : Int} (ht : elemSz P t = some sz) (hx : ev f x = .slice a len cap) (hy : ev f y = .int k i) (ha : a = some ⟨b, q, none⟩) (e : q + i.toNat * sz = o') (h0 : 0 ≤ i) (h1 : i < len)
    (hd : Nat.blt d n = true) (h : WpO P n ops K l (up f d (.pointer (some ⟨b, o', none⟩))) w) : WpO P n ops K (⟨some d, .indexAddr t x y, ty, pos, aft, none⟩ :: l) f w := by
  subst ha
  exact wpo_indexAddr ht hx hy h0 h1 e hd h
theorem wpo_indexS {t sz len cap : Nat} {a : Option Addr} {x y : Operand} {k : IntKind} {i : Int} {w0 : World} {xs : List (List Value)} {vs : List Value} (ht : elemSz P t = some sz) (hx : ev f x = .slice a len cap) (hy : ev f y = .int k i)
    (hs : SlAt w0 a sz xs) (h0 : 0 ≤ i) (h1 : i < len) (hv : xs[i.toNat]? = some vs) (hd : Nat.blt d n = true) (h : ∀ b o, w0.rangeAt b o vs → WpO P n ops K l (up f d (.pointer (some ⟨b, o, none⟩))) w) :
    WpO P n ops K (⟨some d, .indexAddr t x y, ty, pos, aft, none⟩ :: l) f w := by
  obtain ⟨b, o, rfl, hr⟩ := hs _ _ hv
  exact wpo_indexAddr ht hx hy h0 h1 rfl hd (h b _ hr)
theorem run_len {t et : TypeId} {a : Option Addr} {m c : Nat} (ht : (match P.underlying t with | some (.slice _) => true | _ => false) = true) : (Builtin.len_ #[t] et #[.slice a m c]).run P w = .ok (.int .i64 (m : Int)) w := by
  cases hu : P.underlying t with
  | none => rw [hu] at ht; cases ht
  | some dd =>
    rw [hu] at ht
    cases dd with
    | slice e => exact run_len_slice w t et a m c (by simp [Program.elem, hu])
    | _ => cases ht
theorem wpo_len {t : TypeId} {a : Option Addr} {m c : Nat} {x : Operand} (ht : (match P.underlying t with | some (.slice _) => true | _ => false) = true) (hx : ev f x = .slice a m c) (hd : Nat.blt d n = true)
    (h : WpO P n ops K l (up f d (.int .i64 (m : Int))) w) : WpO P n ops K (⟨some d, .call ⟨.builtin .len, #[x], #[t]⟩, ty, pos, aft, none⟩ :: l) f w :=
  wpo_val rfl hd (by simp [execOp, resolve, invoke, builtin, hx, run_len ht]) h
theorem wpo_nilCheck {x : Operand} {a : Addr} (hx : ev f x = .pointer (some a)) (hd : Nat.blt d n = true) (h : WpO P n ops K l (up f d (.pointer (some a))) w) : WpO P n ops K (⟨some d, .nilCheck x, ty, pos, aft, none⟩ :: l) f w :=
  wpo_val rfl hd (by simp [execOp, hx]) h
theorem wpo_extract {x : Operand} {i : Nat} {vs : Array Value} {v : Value} (hx : ev f x = .tuple vs) (hv : vs[i]? = some v) (hd : Nat.blt d n = true) (h : WpO P n ops K l (up f d v) w) : WpO P n ops K (⟨some d, .extract x i, ty, pos, aft, none⟩ :: l) f w :=
  wpo_val rfl hd (by simp [execOp, hx, Instr.extract, hv]) h
theorem wpo_not {t : TypeId} {x : Operand} {b b' : Bool} (hx : ev f x = .bool b) (hb : (!b) = b') (hd : Nat.blt d n = true) (h : WpO P n ops K l (up f d (.bool b')) w) : WpO P n ops K (⟨some d, .unOp .not t x, ty, pos, aft, none⟩ :: l) f w :=
  wpo_val rfl hd (by simp [execOp, hx, Op.unary, hb]) h
theorem run_eqlb {t : TypeId} (ht : P.underlying t = some .bool) (a b : Bool) : (binOp .eql t (.bool a) (.bool b)).run P w = .ok (.bool (decide (a = b))) w := by
  have h : ∀ d : Nat, (Op.equalIn (d + 1) t (.bool a) (.bool b)).run P w = .ok (a == b) w := fun d => run_equalIn_bool' w d t a b ht
  simp only [binOp]
  simp [Op.equal, Op.maxDepth, h 9999, beqd]
theorem run_neqb {t : TypeId} (ht : P.underlying t = some .bool) (a b : Bool) : (binOp .neq t (.bool a) (.bool b)).run P w = .ok (.bool (!decide (a = b))) w := by
  have h : ∀ d : Nat, (Op.equalIn (d + 1) t (.bool a) (.bool b)).run P w = .ok (a == b) w := fun d => run_equalIn_bool' w d t a b ht
  simp only [binOp]
  simp [Op.equal, Op.maxDepth, h 9999, beqd]
/-- Whatever yields a value and leaves the world: its run is given. -/
theorem wpo_op {op : Op} {v : Value} (hr : (execOp (ev f) ⟨some d, op, ty, pos, aft, none⟩).run P w = .ok (.value v) w) (hd : Nat.blt d n = true) (h : WpO P n ops K l (up f d v) w) :
    WpO P n ops K (⟨some d, op, ty, pos, aft, none⟩ :: l) f w := wpo_val rfl hd hr h
theorem wpo_bin {bo : BinOp} {xt yt : TypeId} {x y : Operand} {u u' v : Value} (hx : ev f x = u) (hy : ev f y = u') (hr : (binOp bo xt u u').run P w = .ok v w) (hg : ∀ x y, eqGuard bo xt x y u u' = pure ()) (hd : Nat.blt d n = true)
    (h : WpO P n ops K l (up f d v) w) : WpO P n ops K (⟨some d, .binOp bo xt x y yt, ty, pos, aft, none⟩ :: l) f w :=
  wpo_val rfl hd (by simp [execOp, hx, hy, hr, hg]) h
theorem wpo_build {t : TypeId} {parts : Array (Nat × Operand)} {ps : List (Nat × Value)} {v : Value} (hp : parts.toList.map (fun p => (p.1, ev f p.2)) = ps) (hb : (Instr.build t ps.toArray).run P w = .ok v w) (hd : Nat.blt d n = true)
    (h : WpO P n ops K l (up f d v) w) : WpO P n ops K (⟨some d, .build t parts, ty, pos, aft, none⟩ :: l) f w :=
  wpo_val rfl hd (by
    have e : (parts.map fun p => (p.1, ev f p.2)) = ps.toArray := by rw [← hp]; apply Array.ext'; simp
    show ((do pure (Next.value (← Instr.build t (parts.map fun p => (p.1, ev f p.2)))) : Sem Next)).run P w = _
    rw [e, Sem.run_bind, hb]
    rfl) h
theorem wpo_iface {t : TypeId} {x : Operand} {v : Value} (ht : (Instr.makeInterface t v).run P w = .ok (.iface t v) w) (hx : ev f x = v) (hd : Nat.blt d n = true) (h : WpO P n ops K l (up f d (.iface t v)) w) :
    WpO P n ops K (⟨some d, .makeInterface t x, ty, pos, aft, none⟩ :: l) f w := wpo_val rfl hd (by simp [execOp, hx, ht]) h
theorem wpo_makeFunc {k : FuncId} {cap : Array Operand} {vs : List Value} (hc : cap.toList.map (ev f) = vs) (hd : Nat.blt d n = true) (h : WpO P n ops K l (up f d (.func (.func k) #[] vs.toArray)) w) :
    WpO P n ops K (⟨some d, .makeFunc (.func k) #[] cap, ty, pos, aft, none⟩ :: l) f w := wpo_val rfl hd (by
      have : cap.map (ev f) = vs.toArray := by rw [← hc]; apply Array.ext'; simp
      simp [execOp, Instr.makeFunc, this]) h
theorem wpo_assert {x : Operand} {xt at_ : TypeId} {u v : Value} (hx : ev f x = u) (hr : (Instr.typeAssert u xt at_ true).run P w = .ok v w) (hd : Nat.blt d n = true) (h : WpO P n ops K l (up f d v) w) :
    WpO P n ops K (⟨some d, .typeAssert x xt at_ true, ty, pos, aft, none⟩ :: l) f w := wpo_val rfl hd (by simp [execOp, hx, hr]) h
theorem conv_u64 {a : Int} (h0 : 0 ≤ a) (h1 : a ≤ 18446744073709551615) : IntKind.u64.wrap a = a := by rw [IntKind.wrap_u64]; omega
theorem conv_i64 {a : Int} (h0 : -9223372036854775808 ≤ a) (h1 : a ≤ 9223372036854775807) : IntKind.i64.wrap a = a := IntWalk.i64_in a (by omega)
theorem wpo_conv {s t : TypeId} {x : Operand} {k k' : IntKind} {a c : Int} (hx : ev f x = .int k a) (hs : (P.underlying s).isSome = true) (ht : P.underlying t = some (.int k')) (hc : k'.wrap a = c) (hd : Nat.blt d n = true)
    (h : WpO P n ops K l (up f d (.int k' c)) w) : WpO P n ops K (⟨some d, .convert s t x, ty, pos, aft, none⟩ :: l) f w :=
  wpo_val rfl hd (by
    obtain ⟨ds, hs'⟩ := Option.isSome_iff_exists.1 hs
    simp [execOp, hx, convert, run_underlying hs', run_underlying ht, Conv.intToInt, hc]) h
/-- '==' of two structs. -/
theorem wpo_eqs {bo : BinOp} {t yt : TypeId} {x y : Operand} {u v : Value} {q q' : Bool} (hx : ev f x = u) (hy : ev f y = v) (hg : (eqGuard bo t x y u v).run P w = .ok () w) (hr : (binOp bo t u v).run P w = .ok (.bool q') w) (hq : q' = q)
    (hd : Nat.blt d n = true) (h : WpO P n ops K l (up f d (.bool q)) w) : WpO P n ops K (⟨some d, .binOp bo t x y yt, ty, pos, aft, none⟩ :: l) f w :=
  wpo_val rfl hd (by simp only [execOp, hx, hy, Sem.run_bind, hg, hr, Result.andThen_ok, hq]; rfl) h
theorem wpo_eqlb {t yt : TypeId} {x y : Operand} {a b q : Bool} (ht : P.underlying t = some .bool) (hx : ev f x = .bool a) (hy : ev f y = .bool b) (hq : decide (a = b) = q) (hd : Nat.blt d n = true)
    (h : WpO P n ops K l (up f d (.bool q)) w) : WpO P n ops K (⟨some d, .binOp .eql t x y yt, ty, pos, aft, none⟩ :: l) f w :=
  wpo_bin hx hy (by rw [run_eqlb ht, hq]) (fun _ _ => eqGuard_at_bool ..) hd h
theorem wpo_neqb {t yt : TypeId} {x y : Operand} {a b q : Bool} (ht : P.underlying t = some .bool) (hx : ev f x = .bool a) (hy : ev f y = .bool b) (hq : (!decide (a = b)) = q) (hd : Nat.blt d n = true)
    (h : WpO P n ops K l (up f d (.bool q)) w) : WpO P n ops K (⟨some d, .binOp .neq t x y yt, ty, pos, aft, none⟩ :: l) f w :=
  wpo_bin hx hy (by rw [run_neqb ht, hq]) (fun _ _ => eqGuard_at_bool ..) hd h
section ints
variable {xt yt : TypeId} {x y : Operand} {k : IntKind} {a b c : Int}
theorem wpo_add (hx : ev f x = .int .i64 a) (hy : ev f y = .int .i64 b) (hc : a + b = c) (h0 : -9223372036854775808 ≤ c) (h1 : c ≤ 9223372036854775807) (hd : Nat.blt d n = true) (h : WpO P n ops K l (up f d (.int .i64 c)) w) :
    WpO P n ops K (⟨some d, .binOp .add xt x y yt, ty, pos, aft, none⟩ :: l) f w :=
  wpo_bin hx hy (by rw [binOp_add]; simp [Op.intArith, hc, IntWalk.i64_in c (by omega)]) (fun _ _ => eqGuard_at_int ..) hd h
theorem wpo_sub (hx : ev f x = .int .i64 a) (hy : ev f y = .int .i64 b) (hc : a - b = c) (h0 : -9223372036854775808 ≤ c) (h1 : c ≤ 9223372036854775807) (hd : Nat.blt d n = true) (h : WpO P n ops K l (up f d (.int .i64 c)) w) :
    WpO P n ops K (⟨some d, .binOp .sub xt x y yt, ty, pos, aft, none⟩ :: l) f w :=
  wpo_bin hx hy (by rw [binOp_sub]; simp [Op.intArith, hc, IntWalk.i64_in c (by omega)]) (fun _ _ => eqGuard_at_int ..) hd h
theorem wpo_quo (hx : ev f x = .int .i64 a) (hy : ev f y = .int .i64 b) (h0 : 0 ≤ a) (h1 : 0 < b) (h2 : a ≤ 9223372036854775807) (hc : a / b = c) (hd : Nat.blt d n = true) (h : WpO P n ops K l (up f d (.int .i64 c)) w) :
    WpO P n ops K (⟨some d, .binOp .quo xt x y yt, ty, pos, aft, none⟩ :: l) f w :=
  wpo_bin hx hy (by
    rw [binOp_quo]
    have hb : b ≠ 0 := by omega
    have h3 : a / b ≤ a := Int.ediv_le_self _ h0
    have h4 : 0 ≤ a / b := Int.ediv_nonneg h0 (by omega)
    rw [hc] at h3 h4
    simp [Op.intDiv, hb, Int.tdiv_eq_ediv_of_nonneg h0, hc, IntWalk.i64_in c (by omega)]) (fun _ _ => eqGuard_at_int ..) hd h
theorem wpo_rem (hx : ev f x = .int .i64 a) (hy : ev f y = .int .i64 b) (h0 : 0 ≤ a) (h1 : 0 < b) (_h2 : a ≤ 9223372036854775807) (hc : a % b = c) (hd : Nat.blt d n = true) (h : WpO P n ops K l (up f d (.int .i64 c)) w) :
    WpO P n ops K (⟨some d, .binOp .rem xt x y yt, ty, pos, aft, none⟩ :: l) f w :=
  wpo_bin hx hy (by
    rw [binOp_rem]
    have hb : b ≠ 0 := by omega
    simp [Op.intDiv, hb, Int.tmod_eq_emod_of_nonneg h0, hc]) (fun _ _ => eqGuard_at_int ..) hd h
theorem wpo_mul (hx : ev f x = .int .i64 a) (hy : ev f y = .int .i64 b) (hc : a * b = c) (h0 : -9223372036854775808 ≤ c) (h1 : c ≤ 9223372036854775807) (hd : Nat.blt d n = true) (h : WpO P n ops K l (up f d (.int .i64 c)) w) :
    WpO P n ops K (⟨some d, .binOp .mul xt x y yt, ty, pos, aft, none⟩ :: l) f w :=
  wpo_bin hx hy (by rw [binOp_mul]; simp [Op.intArith, hc, IntWalk.i64_in c (by omega)]) (fun _ _ => eqGuard_at_int ..) hd h
theorem wpo_lss {q : Bool} (hx : ev f x = .int k a) (hy : ev f y = .int k b) (hq : decide (a < b) = q) (hd : Nat.blt d n = true) (h : WpO P n ops K l (up f d (.bool q)) w) : WpO P n ops K (⟨some d, .binOp .lss xt x y yt, ty, pos, aft, none⟩ :: l) f w :=
  wpo_bin hx hy (by rw [binOp_lss, ← hq]; rfl) (fun _ _ => eqGuard_at_int ..) hd h
theorem wpo_leq {q : Bool} (hx : ev f x = .int k a) (hy : ev f y = .int k b) (hq : decide (a ≤ b) = q) (hd : Nat.blt d n = true) (h : WpO P n ops K l (up f d (.bool q)) w) : WpO P n ops K (⟨some d, .binOp .leq xt x y yt, ty, pos, aft, none⟩ :: l) f w :=
  wpo_bin hx hy (by rw [binOp_leq, ← hq]; rfl) (fun _ _ => eqGuard_at_int ..) hd h
theorem wpo_gtr {q : Bool} (hx : ev f x = .int k a) (hy : ev f y = .int k b) (hq : decide (b < a) = q) (hd : Nat.blt d n = true) (h : WpO P n ops K l (up f d (.bool q)) w) : WpO P n ops K (⟨some d, .binOp .gtr xt x y yt, ty, pos, aft, none⟩ :: l) f w :=
  wpo_bin hx hy (by rw [binOp_gtr, ← hq]; rfl) (fun _ _ => eqGuard_at_int ..) hd h
theorem wpo_geq {q : Bool} (hx : ev f x = .int k a) (hy : ev f y = .int k b) (hq : decide (b ≤ a) = q) (hd : Nat.blt d n = true) (h : WpO P n ops K l (up f d (.bool q)) w) : WpO P n ops K (⟨some d, .binOp .geq xt x y yt, ty, pos, aft, none⟩ :: l) f w :=
  wpo_bin hx hy (by rw [binOp_geq, ← hq]; rfl) (fun _ _ => eqGuard_at_int ..) hd h
theorem wpo_eql {q : Bool} (hx : ev f x = .int k a) (hy : ev f y = .int k b) (hq : decide (a = b) = q) (hd : Nat.blt d n = true) (h : WpO P n ops K l (up f d (.bool q)) w) : WpO P n ops K (⟨some d, .binOp .eql xt x y yt, ty, pos, aft, none⟩ :: l) f w :=
  wpo_bin hx hy (by rw [binOp_eql, ← hq, beqd]; rfl) (fun _ _ => eqGuard_at_int ..) hd h
theorem wpo_neq {q : Bool} (hx : ev f x = .int k a) (hy : ev f y = .int k b) (hq : (!decide (a = b)) = q) (hd : Nat.blt d n = true) (h : WpO P n ops K l (up f d (.bool q)) w) : WpO P n ops K (⟨some d, .binOp .neq xt x y yt, ty, pos, aft, none⟩ :: l) f w :=
  wpo_bin hx hy (by rw [binOp_neq, ← hq, bne, beqd]; rfl) (fun _ _ => eqGuard_at_int ..) hd h
end ints
/-- A cut in the midst of a list. -/
theorem wpo_at (k : Nat) (M : Fr → World → Prop) (h1 : WpO P n ops M (l.take k) f w) (h2 : ∀ f w, M f w → WpO P n ops K (l.drop k) f w) : WpO P n ops K l f w := by
  have := wpo_app (l := l.take k) (l' := l.drop k) (h1.mono h2)
  rwa [List.take_append_drop] at this
theorem wpo_call {k : FuncId} {args : Array Operand} {tys : Array TypeId} {vs : List Value} {R : Value → World → Prop} (hk : goFn P k = true) (ha : args.toList.map (ev f) = vs) (hd : Nat.blt d n = true) (hc : CallsR P k vs.toArray w R)
    (h : ∀ v w', R v w' → WpO P n ops K l (up f d v) w') : WpO P n ops K (⟨some d, .call ⟨.value (.func k), args, tys⟩, ty, pos, aft, none⟩ :: l) f w :=
  wpo_enter (R := R) (k := k) (args := vs.toArray) rfl hd (by
    have : args.map (ev f) = vs.toArray := by rw [← ha]; apply Array.ext'; simp
    simp [execOp, resolve, ev, Deferred.ofValue, invoke, this, run_callGo hk]) hc h
/-- A call of a function value. -/
theorem wpo_callv {t : Operand} {k : FuncId} {args : Array Operand} {tys : Array TypeId} {vs cs : List Value} {R : Value → World → Prop} (hk : goFn P k = true) (ht : ev f t = .func (.func k) #[] cs.toArray) (ha : args.toList.map (ev f) = vs) (hd : Nat.blt d n = true)
    (hc : CallsR P k (vs ++ cs).toArray w R) (h : ∀ v w', R v w' → WpO P n ops K l (up f d v) w') : WpO P n ops K (⟨some d, .call ⟨.value t, args, tys⟩, ty, pos, aft, none⟩ :: l) f w :=
  wpo_enter (R := R) (k := k) (args := (vs ++ cs).toArray) rfl hd (by
    have : args.map (ev f) = vs.toArray := by rw [← ha]; apply Array.ext'; simp
    simp [execOp, resolve, ht, Deferred.ofValue, invoke, this, run_callGo hk]) hc h
end
end Go.Dw
