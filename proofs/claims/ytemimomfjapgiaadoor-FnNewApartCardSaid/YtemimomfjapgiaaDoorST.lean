/-
  Strings, as lists of bytes: what the operations yield.
-/
import Derived.Test.YtemimomfjapgiaaDoorQ
import Derived.Test.YtemimomfjapgiaaDoorP
import Derived.Laws.Strings
import Derived.Laws.Concat
import Derived.Laws.BytesString
namespace Go.Dw
open Go.RowKit
set_option linter.unusedVariables false
section
variable {P : Program} {n : Nat} {ops : Array Oper} {K : Fr → World → Prop} {l : List Oper} {f : Fr} {w w' : World} {d : Nat} {ty : TypeId} {pos : String} {aft : Array Edge}
theorem wpo_cat {xt yt : TypeId} {x y : Operand} {a b : List UInt8} (hx : ev f x = .string ⟨a.toArray⟩) (hy : ev f y = .string ⟨b.toArray⟩) (ha : a.length ≤ 1000000) (hb : b.length ≤ 1000000) (hd : Nat.blt d n = true) (h : WpO P n ops K l (up f d (.string ⟨(a ++ b).toArray⟩)) w) :
    WpO P n ops K (⟨some d, .binOp .add xt x y yt, ty, pos, aft, none⟩ :: l) f w :=
  wpo_bin hx hy (by rw [binOp_string_add, run_string_add_lists w a b (by omega) (by omega)]) (fun _ _ => eqGuard_at_string ..) hd h
theorem str_beq {a b : List UInt8} : ((ByteArray.mk a.toArray).toList == (ByteArray.mk b.toArray).toList) = decide (a = b) := by
  rw [ByteArray.toList_mk, ByteArray.toList_mk]
  by_cases h : a = b
  · simp [h]
  · simp [h]
theorem wpo_seql {xt yt : TypeId} {x y : Operand} {a b : List UInt8} {q : Bool} (hx : ev f x = .string ⟨a.toArray⟩) (hy : ev f y = .string ⟨b.toArray⟩) (hq : decide (a = b) = q) (hd : Nat.blt d n = true) (h : WpO P n ops K l (up f d (.bool q)) w) :
    WpO P n ops K (⟨some d, .binOp .eql xt x y yt, ty, pos, aft, none⟩ :: l) f w :=
  wpo_bin hx hy (by rw [binOp_string_eql, str_beq, hq]; rfl) (fun _ _ => eqGuard_at_string ..) hd h
theorem wpo_sneq {xt yt : TypeId} {x y : Operand} {a b : List UInt8} {q : Bool} (hx : ev f x = .string ⟨a.toArray⟩) (hy : ev f y = .string ⟨b.toArray⟩) (hq : (!decide (a = b)) = q) (hd : Nat.blt d n = true) (h : WpO P n ops K l (up f d (.bool q)) w) :
    WpO P n ops K (⟨some d, .binOp .neq xt x y yt, ty, pos, aft, none⟩ :: l) f w :=
  wpo_bin hx hy (by rw [binOp_string_neq, str_beq, hq]; rfl) (fun _ _ => eqGuard_at_string ..) hd h
/-- The bytes of numbers. -/
def ub (ns : List Int) : List UInt8 := ns.map fun n => UInt8.ofNat n.toNat
theorem push_all (ns : List Int) : ∀ s : List UInt8, ns.foldl (fun (r : ByteArray) n => r.push (UInt8.ofNat n.toNat)) ⟨s.toArray⟩ = ⟨(s ++ ub ns).toArray⟩ := by
  induction ns with
  | nil => intro s; simp [ub]
  | cons n ns ih =>
    intro s
    have e : (ByteArray.mk s.toArray).push (UInt8.ofNat n.toNat) = ⟨(s ++ [UInt8.ofNat n.toNat]).toArray⟩ := by
      apply ByteArray.ext
      simp [ByteArray.push]
    rw [List.foldl_cons, e, ih]
    simp [ub]
/-- A string of bytes that lie in memory. -/
theorem wpo_bstr {s t e : TypeId} {x : Operand} {b len cap : Nat} {ns : List Int} (hx : ev f x = .slice (some ⟨b, 0, none⟩) len cap) (hs : P.underlying s = some (.slice e)) (he : P.underlying e = some (.int .u8)) (ht : P.underlying t = some .string)
    (hr : (loadCells ⟨b, 0, none⟩ len).run P w = .ok (ns.map (Value.int .u8)).toArray w) (hd : Nat.blt d n = true) (h : WpO P n ops K l (up f d (.string ⟨(ub ns).toArray⟩)) w) :
    WpO P n ops K (⟨some d, .convert s t x, ty, pos, aft, none⟩ :: l) f w :=
  wpo_val rfl hd (by
    have e0 : (Conv.bytesToString (.slice (some ⟨b, 0, none⟩) len cap)).run P w = .ok (.string ⟨(ub ns).toArray⟩) w := by
      rw [run_bytesToString w _ len cap ns hr]
      have hp := push_all ns []
      rw [List.nil_append] at hp
      exact congrArg (fun z => Result.ok (Value.string z) w) hp
    simp [execOp, hx, run_convert_bytes_string w s t e _ _ _ hs he ht, e0]) h
end
section
variable {P : Program} {n : Nat} {ops : Array Oper} {K : Fr → World → Prop} {l : List Oper} {f : Fr} {w w' : World} {d : Nat} {ty : TypeId} {pos : String} {aft : Array Edge}
theorem load_blk {b T len : Nat} {cs : Array Value} {ns : List Int} (h : Blk w b T cs) (hn : cs = (ns.map (Value.int .u8)).toArray) (hl : ns.length = len) : (loadCells ⟨b, 0, none⟩ len).run P w = .ok (ns.map (Value.int .u8)).toArray w := by
  subst hl
  have := run_loadCells_list (P := P) (w := w) ⟨b, 0, none⟩ (ns.map (Value.int .u8)) (fun j v hj => by
    have hc := Blk.cell (i := j) (v := v) h (by rw [hn]; simpa using hj)
    have e : Addr.add ⟨b, 0, none⟩ j = ⟨b, j, none⟩ := by simp [Addr.add]; omega
    rw [e]
    exact hc)
  rwa [List.length_map] at this
theorem wpo_neg {t : TypeId} {x : Operand} {a c : Int} (hx : ev f x = .int .i64 a) (hc : -a = c) (h0 : -9223372036854775808 ≤ c) (h1 : c ≤ 9223372036854775807) (hd : Nat.blt d n = true) (h : WpO P n ops K l (up f d (.int .i64 c)) w) : WpO P n ops K (⟨some d, .unOp .neg t x, ty, pos, aft, none⟩ :: l) f w :=
  wpo_val rfl hd (by
    have e : (0 : Int) - a = c := by omega
    simp [execOp, hx, Op.unary, Op.intArith, e, IntWalk.i64_in c (by omega)]) h
end
theorem conv_u8 {a : Int} (h0 : 0 ≤ a) (h1 : a ≤ 255) : IntKind.u8.wrap a = a := by rw [IntKind.wrap_u8]; omega
theorem len_app {a b : List UInt8} {n m : Nat} (ha : a.length ≤ n) (hb : b.length ≤ m) : (a ++ b).length ≤ n + m := by rw [List.length_append]; omega
/-- A digit; a number of two figures at most, or one below zero of one. -/
def dg (n : Int) : UInt8 := UInt8.ofNat (48 + n).toNat
def dec2 (n : Int) : List UInt8 := if n < 10 then [dg n] else [dg (n / 10), dg (n % 10)]
def dec (n : Int) : List UInt8 := if n < 0 then 45 :: dec2 (-n) else dec2 n
theorem dec2_len (n : Int) : (dec2 n).length ≤ 2 := by unfold dec2; split <;> simp
theorem dec_len (n : Int) : (dec n).length ≤ 3 := by
  unfold dec
  have h1 := dec2_len (-n)
  have h2 := dec2_len n
  split
  · rw [List.length_cons]; omega
  · omega
theorem dec_1 {n : Int} (h : n ≤ 9) : dec2 n = ub [48 + n] := by unfold dec2; rw [if_pos (by omega)]; rfl
theorem dec_2 {n : Int} (h : 10 ≤ n ∧ n ≤ 99) : dec2 n = dec2 (n / 10) ++ ub [48 + n % 10] := by
  rw [dec_1 (show n / 10 ≤ 9 by omega)]
  unfold dec2
  rw [if_neg (by omega)]
  rfl
theorem dec_3 {n : Int} (h : n < 0) : dec n = ([45] : List UInt8) ++ dec2 (-n) := by unfold dec; rw [if_pos h]; rfl
theorem dec_p {n : Int} (h : 0 ≤ n) : dec n = dec2 n := by unfold dec; rw [if_neg (by omega)]
/-- The texts of flags, labels, rights. -/
def flg (b : Bool) (l : List UInt8) : List UInt8 := if b = true then l else [45]
def labtx (l : Lab) : List UInt8 := if labelOk l = true then (dec l.s ++ [47]) ++ dec l.v else []
def rtx (r : Rt) : List UInt8 := if rightOk r = true then (if r.th = 0 then [45] else ((((dec r.th ++ [46]) ++ dec r.ve) ++ flg r.rd [114]) ++ flg r.wr [119]) ++ flg r.wk [107]) else []
theorem flg_len (b : Bool) (c : UInt8) : (flg b [c]).length ≤ 1 := by unfold flg; split <;> simp
theorem labtx_len (l : Lab) : (labtx l).length ≤ 7 := by
  unfold labtx
  have h1 := dec_len l.s
  have h2 := dec_len l.v
  split
  · simp only [List.length_append, List.length_cons, List.length_nil]; omega
  · simp
theorem rtx_len (r : Rt) : (rtx r).length ≤ 10 := by
  unfold rtx
  have h1 := dec_len r.th
  have h2 := dec_len r.ve
  have h3 := flg_len r.rd 114
  have h4 := flg_len r.wr 119
  have h5 := flg_len r.wk 107
  split
  · split
    · simp
    · simp only [List.length_append, List.length_cons, List.length_nil]; omega
  · simp
theorem right_rng {r : Rt} (h : rightOk r = true) : (0 ≤ r.th ∧ r.th ≤ 8) ∧ 0 ≤ r.ve ∧ r.ve ≤ 5 := by
  unfold rightOk at h
  simp only [Bool.or_eq_true, Bool.and_eq_true, decide_eq_true_eq] at h
  rcases h with h | h
  · rw [h]; exact ⟨by decide, by decide⟩
  · have h1 := inR_iff.1 h.1.1
    have h2 := inR_iff.1 h.1.2
    omega
/-- The names of kinds; a thing's text. -/
def names6 : List (List UInt8) := [[], [112, 97, 103, 101], [110, 111, 100, 101], [114, 117, 110], [112, 105, 112, 101], [103, 97, 116, 101]]
def scell (s : List UInt8) : List Value := [.string ⟨s.toArray⟩]
theorem wide_str : ∀ x, (scell x).length = 1 := fun _ => rfl
def kname (k : Int) : List UInt8 := if k = 1 then [112, 97, 103, 101] else if k = 2 then [110, 111, 100, 101] else if k = 3 then [114, 117, 110] else if k = 4 then [112, 105, 112, 101] else if k = 5 then [103, 97, 116, 101] else []
theorem kname_len (k : Int) : (kname k).length ≤ 4 := by
  unfold kname
  (repeat' split) <;> simp
theorem names6_get {k : Int} (h : 1 ≤ k ∧ k ≤ 5) : names6[k.toNat]? = some (kname k) := by
  have h1 : k = 1 ∨ k = 2 ∨ k = 3 ∨ k = 4 ∨ k = 5 := by omega
  rcases h1 with rfl | rfl | rfl | rfl | rfl <;> rfl
theorem th_rng {t : Th} (h : thingOk t = true) : (1 ≤ t.kind ∧ t.kind ≤ 5) ∧ (0 ≤ t.ve ∧ t.ve ≤ 5) ∧ (-4 ≤ t.num ∧ t.num ≤ 99) ∧ (0 ≤ t.to ∧ t.to ≤ 8) ∧ t.slots.length ≤ 4 ∧ t.queue.length ≤ 3 ∧ ∀ n ∈ t.queue, 0 ≤ n ∧ n ≤ 99 := by
  obtain ⟨h1, _, h3, h4, h5, h6, h7⟩ := thingOk_parts h
  refine ⟨inR_iff.1 h1, ?_, ?_, ?_, ?_, ?_, ?_⟩
  · unfold versOk at h3
    split at h3
    · exact inR_iff.1 h3
    · have := of_decide_eq_true h3; omega
  · unfold numOk at h4
    split at h4
    · have := inR_iff.1 h4; omega
    · split at h4
      · exact inR_iff.1 h4
      · have := of_decide_eq_true h4; omega
  · unfold targetOk at h7
    split at h7
    · have := inR_iff.1 h7; omega
    · have := of_decide_eq_true h7; omega
  · unfold slotsOk at h5
    split at h5
    · have := of_decide_eq_true (Bool.and_eq_true _ _ ▸ h5).1; omega
    · have := of_decide_eq_true h5; omega
  · unfold queueOk at h6
    split at h6
    · exact of_decide_eq_true (Bool.and_eq_true _ _ ▸ h6).1
    · have := of_decide_eq_true h6; omega
  · intro n hn
    unfold queueOk at h6
    split at h6
    · exact inR_iff.1 (List.all_eq_true.1 (Bool.and_eq_true _ _ ▸ h6).2 n hn)
    · have := of_decide_eq_true h6
      rw [List.eq_nil_of_length_eq_zero this] at hn
      cases hn
def hd3 (t : Th) : List UInt8 := (((((kname t.kind ++ [32]) ++ labtx t.lab) ++ [32]) ++ dec t.ve) ++ [32]) ++ dec t.num
def ah3 (t : Th) (k : Nat) : List UInt8 := hd3 t ++ (t.slots.take k).flatMap fun r => 32 :: rtx r
def bh3 (t : Th) (k : Nat) : List UInt8 := ah3 t t.slots.length ++ (t.queue.take k).flatMap fun n => 32 :: 60 :: dec n
def thtx (t : Th) : List UInt8 := (if t.kind = 5 then (bh3 t t.queue.length ++ [32, 62]) ++ dec t.to else bh3 t t.queue.length) ++ [10]
theorem ah3_0 (t : Th) : hd3 t = ah3 t 0 := by simp [ah3]
theorem ah3_s {t : Th} {k : Nat} {r : Rt} (h : t.slots[k]? = some r) : (ah3 t k ++ [32]) ++ rtx r = ah3 t (k + 1) := by
  unfold ah3
  rw [List.take_add_one, h]
  simp
theorem bh3_0 {t : Th} {k : Nat} (h : t.slots.length ≤ k) (hk : k ≤ t.slots.length) : ah3 t k = bh3 t 0 := by
  have e : k = t.slots.length := by omega
  rw [e]
  simp [bh3]
theorem bh3_s {t : Th} {k : Nat} {n : Int} (h : t.queue[k]? = some n) : (bh3 t k ++ [32, 60]) ++ dec n = bh3 t (k + 1) := by
  unfold bh3
  rw [List.take_add_one, h]
  simp
theorem bh3_all {t : Th} {k : Nat} (h : t.queue.length ≤ k) (hk : k ≤ t.queue.length) : bh3 t k = bh3 t t.queue.length := by rw [show k = t.queue.length by omega]
theorem flat_len {α : Type} (f : α → List UInt8) (m : Nat) (hf : ∀ x, (f x).length ≤ m) (l : List α) : (l.flatMap f).length ≤ m * l.length := by
  induction l with
  | nil => simp
  | cons x l ih =>
    have := hf x
    rw [List.flatMap_cons, List.length_append, List.length_cons, Nat.mul_add]
    omega
theorem hd3_len (t : Th) : (hd3 t).length ≤ 20 := by
  have h1 := kname_len t.kind
  have h2 := labtx_len t.lab
  have h3 := dec_len t.ve
  have h4 := dec_len t.num
  unfold hd3
  simp only [List.length_append, List.length_cons, List.length_nil]
  omega
theorem ah3_len {t : Th} {k : Nat} (h : t.slots.length ≤ 4) : (ah3 t k).length ≤ 64 := by
  have h1 := hd3_len t
  have h2 := flat_len (fun r => 32 :: rtx r) 11 (fun r => by have := rtx_len r; rw [List.length_cons]; omega) (t.slots.take k)
  have h3 : (t.slots.take k).length ≤ 4 := by rw [List.length_take]; omega
  unfold ah3
  rw [List.length_append]
  omega
theorem bh3_len {t : Th} {k : Nat} (h : t.slots.length ≤ 4) (hq : t.queue.length ≤ 3) : (bh3 t k).length ≤ 79 := by
  have h1 := ah3_len (k := t.slots.length) h
  have h2 := flat_len (fun n => 32 :: 60 :: dec n) 5 (fun r => by have := dec_len r; rw [List.length_cons, List.length_cons]; omega) (t.queue.take k)
  have h3 : (t.queue.take k).length ≤ 3 := by rw [List.length_take]; omega
  unfold bh3
  rw [List.length_append]
  omega
theorem thtx_len {t : Th} (h : thingOk t = true) : (thtx t).length ≤ 90 := by
  obtain ⟨_, _, _, _, h5, h6, _⟩ := th_rng h
  have h1 := bh3_len (k := t.queue.length) h5 h6
  have h2 := dec_len t.to
  unfold thtx
  split
  · simp only [List.length_append, List.length_cons, List.length_nil]; omega
  · simp only [List.length_append, List.length_cons, List.length_nil]; omega
def sv (l : List UInt8) : Value := .string ⟨l.toArray⟩
/-- A table's text. -/
def ttx (ts : List Th) : Nat → List UInt8
  | 0 => []
  | k + 1 => ((ttx ts k ++ dec ((k : Int) + 1)) ++ [32]) ++ thtx (ts.getD k Th.zero)
theorem ttx_s {ms : List MTh} {k : Nat} (h : k < ms.length) : ((ttx (tabT ms) k ++ dec ((k : Int) + 1)) ++ [32]) ++ thtx (mAt ms k).t = ttx (tabT ms) (k + 1) := by
  rw [mAt_t]
  rfl
theorem ttx_len {ms : List MTh} (hT : tableOk (tabT ms) = true) : ∀ {k : Nat}, k ≤ ms.length → (ttx (tabT ms) k).length ≤ 94 * k := by
  intro k
  induction k with
  | zero => intro _; exact Nat.zero_le _
  | succ k ih =>
    intro h
    have h1 := ih (by omega)
    have h2 := dec_len ((k : Int) + 1)
    have h3 := thtx_len (tab_thing hT (i := k) (by omega))
    rw [← ttx_s (by omega)]
    simp only [List.length_append, List.length_cons, List.length_nil]
    omega
theorem ttx_le {ms : List MTh} (hT : tableOk (tabT ms) = true) {k : Nat} (h : k ≤ ms.length) : (ttx (tabT ms) k).length ≤ 752 := by
  have h1 := ttx_len hT h
  have h2 := (tab_len hT).2
  omega
def tabtx (ts : List Th) : List UInt8 := if tableOk ts = true then ttx ts ts.length else []
theorem tabtx_y {ms : List MTh} (hT : tableOk (tabT ms) = true) {k : Nat} (h1 : ms.length ≤ k) (h2 : k ≤ ms.length) : ttx (tabT ms) k = tabtx (tabT ms) := by
  unfold tabtx
  rw [if_pos hT, tabT_len, show k = ms.length by omega]
theorem tabtx_n {ts : List Th} (hT : tableOk ts = false) : [] = tabtx ts := by
  unfold tabtx
  rw [if_neg (by rw [hT]; exact Bool.false_ne_true)]
theorem tabtx_len {ms : List MTh} : (tabtx (tabT ms)).length ≤ 752 := by
  unfold tabtx
  split
  · rename_i h
    exact ttx_le h (by rw [tabT_len]; omega)
  · exact Nat.zero_le _
/-- A block with the mark of bytes off a constant string: the place behind its last cell is frozen. -/
def BlkM (w : World) (b : Nat) (T : TypeId) (cs : Array Value) : Prop := w.heap[b]? = some (.cells cs T (cs.size, cs.size + 1))
structure SetM (w w' : World) (b : Nat) (T : TypeId) (cs : Array Value) : Prop where
  blk : BlkM w' b T cs
  grw : w.grownBy w' (some b)
section
variable {w w' : World} {b : Nat} {T : TypeId} {cs : Array Value}
theorem BlkM.lt (h : BlkM w b T cs) : b < w.heap.size := (Array.getElem?_eq_some_iff.1 h).1
theorem BlkM.cell (h : BlkM w b T cs) {i : Nat} {v : Value} (hv : cs[i]? = some v) : w.cell? ⟨b, i, none⟩ = some v := by
  unfold BlkM at h
  simp [World.cell?, h, hv]
theorem BlkM.froz (h : BlkM w b T cs) {i : Nat} (hi : i < cs.size) : w.frozen? ⟨b, i, none⟩ = false := by
  unfold BlkM at h
  simp [World.frozen?, h]
  omega
theorem BlkM.grown (h : BlkM w b T cs) {r : Option Nat} (hg : w.grownBy w' r) (hne : some b ≠ r) : BlkM w' b T cs := (hg.block b h.lt hne).trans h
theorem BlkM.grown0 (h : BlkM w b T cs) (hg : w.grownBy w' none) : BlkM w' b T cs := h.grown hg (by simp)
theorem setM_setRow (h : BlkM w b T cs) (cs' : Array Value) (hs : cs'.size = cs.size) : SetM w (w.setRow b cs') b T cs' :=
  ⟨by
    have := setRow_heap w b cs cs' T _ h
    unfold BlkM
    rw [hs]
    exact this, ⟨rfl, rfl, rfl, by simp [World.setRow], fun i _ hne => by
    have : b ≠ i := fun e => hne (by rw [e])
    simp [World.setRow, Array.getElem?_modify, this]⟩⟩
theorem mark_blk (h : Blk w b T cs) : SetM w (w.freeze ⟨b, cs.size, none⟩ 1) b T cs := by
  have h0 : w.heap[b]? = some (.cells cs T (0, 0)) := h
  have hlt := h.lt
  have hv : w.heap[b] = .cells cs T (0, 0) := (Array.getElem?_eq_some_iff.1 h0).2
  unfold World.freeze
  rw [if_neg (by decide)]
  refine ⟨?_, ⟨rfl, rfl, rfl, by simp, fun i _ hne => ?_⟩⟩
  · unfold BlkM
    rw [Array.getElem?_eq_getElem (by simpa using hlt), Array.getElem_modify]
    simp [hv]
  · have : b ≠ i := fun e => hne (by rw [e])
    simp [Array.getElem?_modify, this]
theorem Blk.shapeM (h : Blk w b T cs) : w.shape? b = some (T, cs.size) := by
  unfold Blk at h
  unfold World.shape?
  rw [h]
end
section
variable {P : Program} {n : Nat} {ops : Array Oper} {K : Fr → World → Prop} {l : List Oper} {f : Fr} {w w' : World} {d : Nat} {ty : TypeId} {pos : String} {aft : Array Edge}
theorem wpo_convs {t e b T len cap : Nat} {x : Operand} {cs : Array Value} (hx : ev f x = .slice (some ⟨b, 0, none⟩) len cap) (ht : P.underlying t = some (.slice e)) (he : P.underlying e = some (.int .u8)) (hb : Blk w b T cs) (hd : Nat.blt d n = true)
    (h : ∀ w', SetM w w' b T cs → WpO P n ops K l (up f d (.slice (some ⟨b, 0, none⟩) len cap)) w') : WpO P n ops K (⟨some d, .convert t t x, ty, pos, aft, none⟩ :: l) f w :=
  wpo_val rfl hd (by simp [execOp, hx, convert, run_underlying ht, run_underlying he, markStringish, hb.shapeM]) (h _ (mark_blk hb))
theorem run_store1M {t b o : Nat} {T : TypeId} {cs : Array Value} {v : Value} (h : oneTy P t = true) (h1 : v.oneCell' = true) (hb : BlkM w b T cs) (ho : o < cs.size) :
    (Instr.storeAt t (.pointer (some ⟨b, o, none⟩)) v).run P w = .ok () (w.setRow b (cs.setIfInBounds o v)) := by
  have hc : v.cells = #[v] := by cases v <;> first | rfl | cases h1
  have hcell : w.cell? ⟨b, o, none⟩ = some cs[o] := hb.cell (by simp [ho])
  have hst : (store (⟨b, o, none⟩ : Addr) v).run P w = .ok () (w.setRow b (cs.setIfInBounds o v)) := by
    rw [run_store P w _ v _ h1, hcell]
    simp [hb.froz ho, setCell_eq_setRow w b o cs T _ v hb]
  simp [Instr.storeAt, Instr.sureAddr, storeVar, size_oneTy h, hc, storeCells, Addr.add_mid, hst]
theorem wpo_store1M {t b o : Nat} {x y : Operand} {T : TypeId} {cs cs' : Array Value} {v : Value} (ht : oneTy P t = true) (hx : ev f x = .pointer (some ⟨b, o, none⟩)) (hy : ev f y = v) (h1 : v.oneCell' = true)
    (hb : BlkM w b T cs) (ho : o < cs.size) (hcs : cs.setIfInBounds o v = cs') (h : ∀ w', SetM w w' b T cs' → WpO P n ops K l f w') : WpO P n ops K (⟨none, .store t x y, ty, pos, aft, none⟩ :: l) f w :=
  wpo_unit rfl rfl (by simp [execOp, hx, hy, run_store1M ht h1 hb ho, hcs]) (h _ (setM_setRow hb cs' (by rw [← hcs]; simp)))
theorem load_blkM {b T len : Nat} {cs : Array Value} {ns : List Int} (h : BlkM w b T cs) (hn : cs = (ns.map (Value.int .u8)).toArray) (hl : ns.length = len) : (loadCells ⟨b, 0, none⟩ len).run P w = .ok (ns.map (Value.int .u8)).toArray w := by
  subst hl
  have := run_loadCells_list (P := P) (w := w) ⟨b, 0, none⟩ (ns.map (Value.int .u8)) (fun j v hj => by
    have hc := BlkM.cell (i := j) (v := v) h (by rw [hn]; simpa using hj)
    have e : Addr.add ⟨b, 0, none⟩ j = ⟨b, j, none⟩ := by simp [Addr.add]; omega
    rw [e]
    exact hc)
  rwa [List.length_map] at this
end
end Go.Dw
