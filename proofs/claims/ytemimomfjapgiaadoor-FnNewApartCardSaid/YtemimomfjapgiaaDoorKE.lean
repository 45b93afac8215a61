/-
  What a piece of code leaves alone, said by kinds of blocks; copies of a table, to be marked.
-/
import Derived.Test.YtemimomfjapgiaaDoorE
import Derived.Test.YtemimomfjapgiaaDoorY
namespace Go.Dw
/-- Only blocks from lo on, of the kinds in K, may have changed. -/
structure Keeps (lo : Nat) (K : List TypeId) (w w' : World) : Prop where
  os : w'.os = w.os
  tape : w'.tape = w.tape
  output : w'.output = w.output
  size : w.heap.size ≤ w'.heap.size
  block : ∀ k, k < w.heap.size → (k < lo ∨ ∀ cs T p, w.heap[k]? = some (.cells cs T p) → T ∉ K) → w'.heap[k]? = w.heap[k]?
section
variable {lo : Nat} {K : List TypeId} {w w1 w2 : World}
theorem Keeps.of0 (hg : w.grownBy w1 none) : Keeps lo K w w1 := ⟨hg.os, hg.tape, hg.output, hg.size, fun k hk _ => hg.block k hk (by simp)⟩
theorem Keeps.refl (w : World) : Keeps lo K w w := Keeps.of0 (World.grownBy.refl w none)
theorem Keeps.trans (h : Keeps lo K w w1) (k : Keeps lo K w1 w2) : Keeps lo K w w2 :=
  ⟨k.os.trans h.os, k.tape.trans h.tape, k.output.trans h.output, Nat.le_trans h.size k.size, fun b hb hc => by
    have h1 := h.block b hb hc
    exact (k.block b (Nat.lt_of_lt_of_le hb h.size) (by rcases hc with h2 | h2; exact Or.inl h2; exact Or.inr (fun cs T p e => h2 cs T p (h1.symm.trans e)))).trans h1⟩
theorem Keeps.low (h : Keeps lo K w w1) (hg : w1.grownBy w2 none) : Keeps lo K w w2 := h.trans (Keeps.of0 hg)
theorem Keeps.put {B : Nat} {T : TypeId} {cs : Array Value} (h : Keeps lo K w w1) (hg : w1.grownBy w2 (some B)) (hb : Blk w1 B T cs) (hT : T ∈ K) (hl : lo ≤ B) : Keeps lo K w w2 := h.trans
  ⟨hg.os, hg.tape, hg.output, hg.size, fun k hk hc => hg.block k hk (by
    intro e
    have e : k = B := by simpa using e
    subst e
    rcases hc with h2 | h2
    · omega
    · exact h2 cs T (0, 0) hb hT)⟩
theorem Keeps.own {B sz cap n : Nat} {T : TypeId} {vs : List Value} (h : Keeps lo K w w1) (hg : w1.grownBy w2 (some B)) (ho : Own w1 B T sz cap n vs) (hT : T ∈ K) (hl : lo ≤ B) : Keeps lo K w w2 :=
  let ⟨_, _, hb, _⟩ := ho.blk; h.put hg hb hT hl
theorem Keeps.new {B : Nat} (h : Keeps lo K w w1) (hg : w1.grownBy w2 (some B)) (hl : w.heap.size ≤ B) : Keeps lo K w w2 :=
  ⟨hg.os.trans h.os, hg.tape.trans h.tape, hg.output.trans h.output, Nat.le_trans h.size hg.size, fun k hk hc => (hg.block k (Nat.lt_of_lt_of_le hk h.size) (some_ne (show k ≠ B by omega))).trans (h.block k hk hc)⟩
theorem hN_geK {B : Nat} {T : TypeId} {cs : Array Value} (hn : NewB w1 w2 B T cs) (h : Keeps lo K w w1) : w.heap.size ≤ B := Nat.le_trans h.size (Nat.le_of_eq hn.eq.symm)
/-- Of what was there ahead nothing has changed. -/
theorem Keeps.grown {r : Option Nat} (hg : w.grownBy w1 r) (h : Keeps lo K w1 w2) (hl : w.heap.size ≤ lo) : w.grownBy w2 r :=
  ⟨h.os.trans hg.os, h.tape.trans hg.tape, h.output.trans hg.output, Nat.le_trans hg.size h.size, fun k hk hr => (h.block k (Nat.lt_of_lt_of_le hk hg.size) (Or.inl (by omega))).trans (hg.block k hk hr)⟩
theorem Blk.keeps {b : Nat} {T : TypeId} {cs : Array Value} (h : Blk w b T cs) (hk : Keeps lo K w w1) (ht : b < lo ∨ T ∉ K) : Blk w1 b T cs := by
  have h1 : w.heap[b]? = some (.cells cs T (0, 0)) := h
  refine (hk.block b h.lt ?_).trans h1
  rcases ht with h2 | h2
  · exact Or.inl h2
  · refine Or.inr (fun cs' T' p e => ?_)
    have := h1.symm.trans e
    simp only [Option.some.injEq, Obj.cells.injEq] at this
    rw [← this.2.1]; exact h2
theorem Own.keeps {B sz cap n : Nat} {T : TypeId} {vs : List Value} (h : Own w B T sz cap n vs) (hk : Keeps lo K w w1) (ht : B < lo ∨ T ∉ K) : Own w1 B T sz cap n vs := by
  obtain ⟨h1, cur, hb, h2, h3, h4, h5⟩ := h.blk
  exact Own.ofBlk h1 (hb.keeps hk ht) h2 h3 h4 h5
theorem OwnN.keeps {l sz cap n : Nat} {a : Option Addr} {T : TypeId} {vs : List Value} (h : OwnN l w a T sz cap n vs) (hk : Keeps lo K w w1) (ht : T ∉ K) : OwnN l w1 a T sz cap n vs := by
  rcases h.form with ⟨rfl, rfl, rfl, rfl⟩ | ⟨C, rfl, h2, _, h3⟩
  · exact OwnN.nil
  · exact OwnN.of (h3.keeps hk (Or.inr ht)) h2
theorem Own.full {α : Type} {g : α → List Value} {B sz n : Nat} {T : TypeId} {ys : List α} (h : Own w B T sz n n (ys.flatMap g)) : Blk w B T (ys.flatMap g).toArray := by
  obtain ⟨_, cur, hb, _, _, h4, h5⟩ := h.blk
  have : cur = (ys.flatMap g).toArray := by
    rw [← h5, List.take_of_length_le (by rw [Array.length_toList, h4]; exact Nat.le_refl _)]
  rw [← this]; exact hb
end
/-! ### a slice that is nobody else's, or nil: what a store into it leaves alone -/
section
variable {l sz cap n : Nat} {a : Option Addr} {U : TypeId} {us : List Value} {w w1 w2 : World}
theorem lowN {r : Option Nat} (h : w.grownBy w1 r) (hO : OwnN l w1 a U sz cap n us) (hg : w1.grownBy w2 (a.map (·.block))) (hl : w.heap.size ≤ l) : w.grownBy w2 r := by
  rcases hO.form with ⟨rfl, _⟩ | ⟨B, rfl, h2, _⟩
  · exact low0 h hg
  · exact low1 h hg (show w.heap.size ≤ B by omega)
theorem Keeps.newN {lo : Nat} {K : List TypeId} (h : Keeps lo K w w1) (hO : OwnN l w1 a U sz cap n us) (hg : w1.grownBy w2 (a.map (·.block))) (hl : w.heap.size ≤ l) : Keeps lo K w w2 := by
  rcases hO.form with ⟨rfl, _⟩ | ⟨B, rfl, h2, _⟩
  · exact h.low hg
  · exact h.new hg (show w.heap.size ≤ B by omega)
theorem Blk.typN {b : Nat} {T : TypeId} {cs : Array Value} (h : Blk w b T cs) (hO : OwnN l w a U sz cap n us) (hg : w.grownBy w1 (a.map (·.block))) (hT : T ≠ U) : Blk w1 b T cs := by
  rcases hO.form with ⟨rfl, _⟩ | ⟨B, rfl, h2, _, h3⟩
  · exact h.grown0 hg
  · refine h.grown hg (some_ne (fun e => ?_))
    subst e
    obtain ⟨_, cur, hb, _⟩ := h3.blk
    have h1 : some (Obj.cells cs T (0, 0)) = some (Obj.cells cur U (0, 0)) := Eq.trans (Eq.symm h) hb
    simp only [Option.some.injEq, Obj.cells.injEq] at h1
    exact hT h1.2.1
theorem Blk.ltN {b : Nat} {T : TypeId} {cs : Array Value} (h : Blk w b T cs) (hO : OwnN l w a U sz cap n us) (hg : w.grownBy w1 (a.map (·.block))) (hb : b < l) : Blk w1 b T cs := by
  rcases hO.form with ⟨rfl, _⟩ | ⟨B, rfl, h2, _, h3⟩
  · exact h.grown0 hg
  · exact h.grown hg (some_ne (show b ≠ B by omega))
theorem Own.typN {b s2 c2 n2 : Nat} {T : TypeId} {vs : List Value} (h : Own w b T s2 c2 n2 vs) (hO : OwnN l w a U sz cap n us) (hg : w.grownBy w1 (a.map (·.block))) (hT : T ≠ U) : Own w1 b T s2 c2 n2 vs := by
  obtain ⟨h1, cur, hb, h2, h3, h4, h5⟩ := h.blk
  exact Own.ofBlk h1 (hb.typN hO hg hT) h2 h3 h4 h5
theorem Own.ltN {b s2 c2 n2 : Nat} {T : TypeId} {vs : List Value} (h : Own w b T s2 c2 n2 vs) (hO : OwnN l w a U sz cap n us) (hg : w.grownBy w1 (a.map (·.block))) (hb : b < l) : Own w1 b T s2 c2 n2 vs := by
  obtain ⟨h1, cur, hb', h2, h3, h4, h5⟩ := h.blk
  exact Own.ofBlk h1 (hb'.ltN hO hg hb) h2 h3 h4 h5
end
/-! ### a copy of a thing, whatever stands in it -/
/-- A thing whose slots and queue fill blocks from lo on. -/
structure RowS (TR TI lo : Nat) (w : World) (m : MTh) : Prop where
  s : ∃ (S : Nat) (xs : List Rt), m.sa = some ⟨S, 0, none⟩ ∧ lo ≤ S ∧ m.sc = m.t.slots.length ∧ xs.length = m.t.slots.length ∧ Blk w S TR (xs.flatMap Rt.cells).toArray
  q : ∃ (S : Nat) (xs : List Int), m.qa = some ⟨S, 0, none⟩ ∧ lo ≤ S ∧ m.qc = m.t.queue.length ∧ xs.length = m.t.queue.length ∧ Blk w S TI (xs.flatMap icell).toArray
  ls : m.t.slots.length ≤ 1048576
  lq : m.t.queue.length ≤ 1048576
def RowsS (TR TI lo : Nat) (w : World) (ms : List MTh) : Prop := ∀ m ∈ ms, RowS TR TI lo w m
theorem blk_ne {w : World} {b c : Nat} {T U : TypeId} {cs ds : Array Value} (h : Blk w b T cs) (k : Blk w c U ds) (hT : T ≠ U) : b ≠ c := fun e => by
  subst e
  have h1 : some (Obj.cells cs T (0, 0)) = some (Obj.cells ds U (0, 0)) := Eq.trans (Eq.symm h) k
  simp only [Option.some.injEq, Obj.cells.injEq] at h1
  exact hT h1.2.1
theorem blk_eq {w : World} {b : Nat} {T U : TypeId} {cs ds : Array Value} (h : Blk w b T cs) (k : Blk w b U ds) : cs = ds := by
  have h1 : some (Obj.cells cs T (0, 0)) = some (Obj.cells ds U (0, 0)) := Eq.trans (Eq.symm h) k
  simp only [Option.some.injEq, Obj.cells.injEq] at h1
  exact h1.1
section
variable {TR TI lo : Nat} {w w' : World} {m : MTh} {ms : List MTh}
/-- Blocks of these kinds are left alone, but for one of some kind. -/
theorem RowS.step {b : Nat} {U : TypeId} {ds : Array Value} (h : RowS TR TI lo w m) (hg : w.grownBy w' (some b)) (k : Blk w b U ds) (h1 : TR ≠ U) (h2 : TI ≠ U) : RowS TR TI lo w' m := by
  obtain ⟨⟨S, xs, a1, a2, a3, a4, a5⟩, ⟨Q, ys, b1, b2, b3, b4, b5⟩, h3, h4⟩ := h
  exact ⟨⟨S, xs, a1, a2, a3, a4, a5.grown hg (some_ne (blk_ne a5 k h1))⟩, ⟨Q, ys, b1, b2, b3, b4, b5.grown hg (some_ne (blk_ne b5 k h2))⟩, h3, h4⟩
theorem RowS.low (h : RowS TR TI lo w m) (hg : w.grownBy w' none) : RowS TR TI lo w' m := by
  obtain ⟨⟨S, xs, a1, a2, a3, a4, a5⟩, ⟨Q, ys, b1, b2, b3, b4, b5⟩, h3, h4⟩ := h
  exact ⟨⟨S, xs, a1, a2, a3, a4, a5.grown0 hg⟩, ⟨Q, ys, b1, b2, b3, b4, b5.grown0 hg⟩, h3, h4⟩
theorem RowS.mono {lo' : Nat} (h : RowS TR TI lo w m) (hl : lo' ≤ lo) : RowS TR TI lo' w m := by
  obtain ⟨⟨S, xs, a1, a2, a3, a4, a5⟩, ⟨Q, ys, b1, b2, b3, b4, b5⟩, h3, h4⟩ := h
  exact ⟨⟨S, xs, a1, Nat.le_trans hl a2, a3, a4, a5⟩, ⟨Q, ys, b1, Nat.le_trans hl b2, b3, b4, b5⟩, h3, h4⟩
theorem RowS.marks {S : Nat} {xs xs' : List Rt} (h : RowS TR TI lo w m) (hg : w.grownBy w' (some S)) (k : Blk w S TR (xs.flatMap Rt.cells).toArray) (k' : Blk w' S TR (xs'.flatMap Rt.cells).toArray) (hl : xs'.length = xs.length) (hT : TI ≠ TR) : RowS TR TI lo w' m := by
  obtain ⟨⟨S', ys, a1, a2, a3, a4, a5⟩, ⟨Q, zs, b1, b2, b3, b4, b5⟩, h3, h4⟩ := h
  refine ⟨?_, ⟨Q, zs, b1, b2, b3, b4, b5.grown hg (some_ne (blk_ne b5 k hT))⟩, h3, h4⟩
  by_cases e : S' = S
  · subst e
    refine ⟨S', xs', a1, a2, a3, ?_, k'⟩
    have h5 := congrArg Array.size (blk_eq a5 k)
    rw [List.size_toArray, List.size_toArray, rows_len wide_rt, rows_len wide_rt] at h5
    omega
  · exact ⟨S', ys, a1, a2, a3, a4, a5.grown hg (some_ne e)⟩
theorem RowS.markq {S : Nat} {xs xs' : List Int} (h : RowS TR TI lo w m) (hg : w.grownBy w' (some S)) (k : Blk w S TI (xs.flatMap icell).toArray) (k' : Blk w' S TI (xs'.flatMap icell).toArray) (hl : xs'.length = xs.length) (hT : TR ≠ TI) : RowS TR TI lo w' m := by
  obtain ⟨⟨S', ys, a1, a2, a3, a4, a5⟩, ⟨Q, zs, b1, b2, b3, b4, b5⟩, h3, h4⟩ := h
  refine ⟨⟨S', ys, a1, a2, a3, a4, a5.grown hg (some_ne (blk_ne a5 k hT))⟩, ?_, h3, h4⟩
  by_cases e : Q = S
  · subst e
    refine ⟨Q, xs', b1, b2, b3, ?_, k'⟩
    have h5 := congrArg Array.size (blk_eq b5 k)
    rw [List.size_toArray, List.size_toArray, rows_len wide_int, rows_len wide_int] at h5
    omega
  · exact ⟨Q, zs, b1, b2, b3, b4, b5.grown hg (some_ne e)⟩
theorem RowsS.low (h : RowsS TR TI lo w ms) (hg : w.grownBy w' none) : RowsS TR TI lo w' ms := fun m hm => (h m hm).low hg
theorem RowsS.own {b sz cap n : Nat} {U : TypeId} {vs : List Value} (h : RowsS TR TI lo w ms) (hg : w.grownBy w' (some b)) (k : Own w b U sz cap n vs) (h1 : TR ≠ U) (h2 : TI ≠ U) : RowsS TR TI lo w' ms := fun m hm => let ⟨_, _, hb, _⟩ := k.blk; (h m hm).step hg hb h1 h2
theorem RowsS.marks {S : Nat} {xs xs' : List Rt} (h : RowsS TR TI lo w ms) (hg : w.grownBy w' (some S)) (k : Blk w S TR (xs.flatMap Rt.cells).toArray) (k' : Blk w' S TR (xs'.flatMap Rt.cells).toArray) (hl : xs'.length = xs.length) (hT : TI ≠ TR) : RowsS TR TI lo w' ms := fun m hm => (h m hm).marks hg k k' hl hT
theorem RowsS.markq {S : Nat} {xs xs' : List Int} (h : RowsS TR TI lo w ms) (hg : w.grownBy w' (some S)) (k : Blk w S TI (xs.flatMap icell).toArray) (k' : Blk w' S TI (xs'.flatMap icell).toArray) (hl : xs'.length = xs.length) (hT : TR ≠ TI) : RowsS TR TI lo w' ms := fun m hm => (h m hm).markq hg k k' hl hT
theorem own_blk_ne {b c sz cap n : Nat} {T U : TypeId} {vs : List Value} {ds : Array Value} (h : Own w b T sz cap n vs) (k : Blk w c U ds) (hT : T ≠ U) : b ≠ c := let ⟨_, _, hb, _⟩ := h.blk; blk_ne hb k hT
theorem RowsS.at (h : RowsS TR TI lo w ms) {i : Nat} (hi : i < ms.length) : RowS TR TI lo w (mAt ms i) := h _ (List.mem_of_getElem? (mAt_get hi))
/-- A number of a row is set. -/
theorem RowsS.set (h : RowsS TR TI lo w ms) {i : Nat} (hi : i < ms.length) {m' : MTh} (hq : m'.qa = (mAt ms i).qa ∧ m'.qc = (mAt ms i).qc ∧ m'.t.queue = (mAt ms i).t.queue) (hs : m'.sa = (mAt ms i).sa ∧ m'.sc = (mAt ms i).sc ∧ m'.t.slots = (mAt ms i).t.slots) : RowsS TR TI lo w (ms.set i m') := fun x hx => by
  rcases List.mem_or_eq_of_mem_set hx with h1 | rfl
  · exact h x h1
  · have h0 := h.at hi
    obtain ⟨h1, h2, h3⟩ := hq
    obtain ⟨h4, h5, h6⟩ := hs
    refine ⟨?_, ?_, ?_, ?_⟩
    · rw [h4, h5, h6]; exact h0.s
    · rw [h1, h2, h3]; exact h0.q
    · rw [h6]; exact h0.ls
    · rw [h3]; exact h0.lq
end
theorem filter_t {α : Type} {p : α → Bool} {xs ys : List α} {k : Nat} {x : α} (h : ys = (xs.take k).filter p) (hx : xs[k]? = some x) (hp : p x = true) : ys ++ [x] = (xs.take (k + 1)).filter p := by
  rw [List.take_add_one, hx, List.filter_append, ← h]
  simp [hp]
theorem filter_f {α : Type} {p : α → Bool} {xs ys : List α} {k : Nat} {x : α} (h : ys = (xs.take k).filter p) (hx : xs[k]? = some x) (hp : p x = false) : ys = (xs.take (k + 1)).filter p := by
  rw [List.take_add_one, hx, List.filter_append, ← h]
  simp [hp]
theorem runLow_no {ts : List Th} {cs : List Cl} {l : Lab} (h : ((!scriptOk ts cs) || (!labelOk l)) = true) : runLow ts cs l = [] := by
  unfold runLow
  cases h1 : scriptOk ts cs <;> cases h2 : labelOk l <;> simp_all
theorem runLow_yes {ts : List Th} {cs ys : List Cl} {l : Lab} {k : Nat} (h : ((!scriptOk ts cs) || (!labelOk l)) = false) (hy : ys = (cs.take k).filter (lowOf ts l)) (hk : cs.length ≤ k) : runLow ts cs l = ys := by
  unfold runLow
  rw [hy, List.take_of_length_le hk]
  cases h1 : scriptOk ts cs <;> cases h2 : labelOk l <;> simp_all
theorem runLow_len (ts : List Th) (cs : List Cl) (l : Lab) : (runLow ts cs l).length ≤ cs.length := by
  unfold runLow
  split
  · exact List.length_filter_le _ _
  · exact Nat.zero_le _
/-! ### marks of calls -/
abbrev mkCl (n : Int) : Cl := ⟨n, n + 1, n + 1 + 1, n + 1 + 1 + 1, n + 1 + 1 + 1 + 1⟩
def markC (m : Int) (xs : List Cl) (k : Nat) : List Cl := (List.range k).map (fun i : Nat => mkCl (m + 5 * (i : Int))) ++ xs.drop k
theorem markC_len {m : Int} {xs : List Cl} {k : Nat} (hk : k ≤ xs.length) : (markC m xs k).length = xs.length := by simp [markC]; omega
theorem markC_zero {m : Int} {xs : List Cl} : markC m xs 0 = xs := by simp [markC]
theorem markC_set {m : Int} {xs : List Cl} {k : Nat} (hk : k < xs.length) : (markC m xs k).set k (mkCl (m + 5 * (k : Int))) = markC m xs (k + 1) := by
  unfold markC
  rw [List.set_append_right _ _ (by simp), List.length_map, List.length_range, Nat.sub_self, List.drop_eq_getElem_cons hk, List.set_cons_zero, List.range_succ, List.map_append, List.append_assoc]
  rfl
theorem markC_all {m : Int} {xs : List Cl} {k : Nat} (hk : xs.length ≤ k) : markC m xs k = (List.range k).map (fun i : Nat => mkCl (m + 5 * (i : Int))) := by simp [markC, List.drop_eq_nil_of_le hk]
theorem marksC_get {m : Int} {n k : Nat} (h : k < n) : ((List.range n).map (fun i : Nat => mkCl (m + 5 * (i : Int))))[k]? = some (mkCl (m + 5 * (k : Int))) := by
  rw [List.getElem?_map, List.getElem?_range h]
  rfl
end Go.Dw
