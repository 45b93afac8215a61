/-
  A table of one's own in memory: what each row's slots and queue hold is known, and no two rows share their slots.
-/
import Derived.Test.YtemimomfjapgiaaDoorKE
import Derived.Test.YtemimomfjapgiaaDoorFA
namespace Go.Dw
/-- Only blocks from lo on and below hi, of the kinds in K, may have changed. -/
structure KeepsI (lo hi : Nat) (K : List TypeId) (w w' : World) : Prop where
  os : w'.os = w.os
  tape : w'.tape = w.tape
  output : w'.output = w.output
  size : w.heap.size ≤ w'.heap.size
  block : ∀ k, k < w.heap.size → (k < lo ∨ hi ≤ k ∨ ∀ cs T p, w.heap[k]? = some (.cells cs T p) → T ∉ K) → w'.heap[k]? = w.heap[k]?
section
variable {lo hi : Nat} {K : List TypeId} {w w1 w2 : World}
theorem KeepsI.of0 (hg : w.grownBy w1 none) : KeepsI lo hi K w w1 := ⟨hg.os, hg.tape, hg.output, hg.size, fun k hk _ => hg.block k hk (by simp)⟩
theorem KeepsI.refl (w : World) : KeepsI lo hi K w w := KeepsI.of0 (World.grownBy.refl w none)
theorem KeepsI.trans (h : KeepsI lo hi K w w1) (k : KeepsI lo hi K w1 w2) : KeepsI lo hi K w w2 :=
  ⟨k.os.trans h.os, k.tape.trans h.tape, k.output.trans h.output, Nat.le_trans h.size k.size, fun b hb hc => by
    have h1 := h.block b hb hc
    exact (k.block b (Nat.lt_of_lt_of_le hb h.size) (by rcases hc with h2 | h2 | h2; exact Or.inl h2; exact Or.inr (Or.inl h2); exact Or.inr (Or.inr (fun cs T p e => h2 cs T p (h1.symm.trans e))))).trans h1⟩
theorem KeepsI.low (h : KeepsI lo hi K w w1) (hg : w1.grownBy w2 none) : KeepsI lo hi K w w2 := h.trans (KeepsI.of0 hg)
theorem KeepsI.own {B sz cap n : Nat} {T : TypeId} {vs : List Value} (h : KeepsI lo hi K w w1) (hg : w1.grownBy w2 (some B)) (ho : Own w1 B T sz cap n vs) (hT : T ∈ K) (hl : lo ≤ B) (hh : B < hi) : KeepsI lo hi K w w2 := h.trans
  ⟨hg.os, hg.tape, hg.output, hg.size, fun k hk hc => hg.block k hk (by
    intro e
    have e : k = B := by simpa using e
    subst e
    obtain ⟨_, cs, hb, _⟩ := ho.blk
    rcases hc with h2 | h2 | h2
    · omega
    · omega
    · exact h2 cs T (0, 0) hb hT)⟩
theorem KeepsI.new {B : Nat} (h : KeepsI lo hi K w w1) (hg : w1.grownBy w2 (some B)) (hl : w.heap.size ≤ B) : KeepsI lo hi K w w2 :=
  ⟨hg.os.trans h.os, hg.tape.trans h.tape, hg.output.trans h.output, Nat.le_trans h.size hg.size, fun k hk hc => (hg.block k (Nat.lt_of_lt_of_le hk h.size) (some_ne (show k ≠ B by omega))).trans (h.block k hk hc)⟩
theorem KeepsI.newN {l sz cap n : Nat} {a : Option Addr} {U : TypeId} {us : List Value} (h : KeepsI lo hi K w w1) (hO : OwnN l w1 a U sz cap n us) (hg : w1.grownBy w2 (a.map (·.block))) (hl : w.heap.size ≤ l) : KeepsI lo hi K w w2 := by
  rcases hO.form with ⟨rfl, _⟩ | ⟨B, rfl, h2, _⟩
  · exact h.low hg
  · exact h.new hg (show w.heap.size ≤ B by omega)
theorem hN_geI {B : Nat} {T : TypeId} {cs : Array Value} (hn : NewB w1 w2 B T cs) (h : KeepsI lo hi K w w1) : w.heap.size ≤ B := Nat.le_trans h.size (Nat.le_of_eq hn.eq.symm)
theorem KeepsI.grown {r : Option Nat} (hg : w.grownBy w1 r) (h : KeepsI lo hi K w1 w2) (hl : w.heap.size ≤ lo) : w.grownBy w2 r :=
  ⟨h.os.trans hg.os, h.tape.trans hg.tape, h.output.trans hg.output, Nat.le_trans hg.size h.size, fun k hk hr => (h.block k (Nat.lt_of_lt_of_le hk hg.size) (Or.inl (by omega))).trans (hg.block k hk hr)⟩
theorem Blk.keepsI {b : Nat} {T : TypeId} {cs : Array Value} (h : Blk w b T cs) (hk : KeepsI lo hi K w w1) (ht : b < lo ∨ hi ≤ b ∨ T ∉ K) : Blk w1 b T cs := by
  have h1 : w.heap[b]? = some (.cells cs T (0, 0)) := h
  refine (hk.block b h.lt ?_).trans h1
  rcases ht with h2 | h2 | h2
  · exact Or.inl h2
  · exact Or.inr (Or.inl h2)
  · refine Or.inr (Or.inr (fun cs' T' p e => ?_))
    have := h1.symm.trans e
    simp only [Option.some.injEq, Obj.cells.injEq] at this
    rw [← this.2.1]; exact h2
theorem Own.keepsI {B sz cap n : Nat} {T : TypeId} {vs : List Value} (h : Own w B T sz cap n vs) (hk : KeepsI lo hi K w w1) (ht : B < lo ∨ hi ≤ B ∨ T ∉ K) : Own w1 B T sz cap n vs := by
  obtain ⟨h1, cur, hb, h2, h3, h4, h5⟩ := h.blk
  exact Own.ofBlk h1 (hb.keepsI hk ht) h2 h3 h4 h5
end
structure RowO (TR TI lo : Nat) (w : World) (m : MTh) : Prop where
  s : OwnN lo w m.sa TR 5 m.sc m.t.slots.length (m.t.slots.flatMap Rt.cells)
  q : OwnN lo w m.qa TI 1 m.qc m.t.queue.length (m.t.queue.flatMap icell)
structure RowsO (TR TI lo : Nat) (w : World) (ms : List MTh) : Prop where
  row : ∀ m ∈ ms, RowO TR TI lo w m
  apart : ∀ i j S, i < ms.length → j < ms.length → i ≠ j → (mAt ms i).sa = some ⟨S, 0, none⟩ → (mAt ms j).sa ≠ some ⟨S, 0, none⟩
/-- All that the rows have lies below. -/
def HiO (hi : Nat) (ms : List MTh) : Prop := ∀ m ∈ ms, ∀ c, (m.sa = some ⟨c, 0, none⟩ ∨ m.qa = some ⟨c, 0, none⟩) → c < hi
section
variable {TR TI lo : Nat} {w w' : World} {m : MTh} {ms : List MTh}
theorem OwnN.typB {l : Nat} {a : Option Addr} {T U : TypeId} {sz cap n B : Nat} {vs : List Value} {cs : Array Value} (h : OwnN l w a T sz cap n vs) (hg : w.grownBy w' (some B)) (k : Blk w B U cs) (hT : T ≠ U) : OwnN l w' a T sz cap n vs := by
  rcases h.form with ⟨rfl, rfl, rfl, rfl⟩ | ⟨C, rfl, h2, _, h3⟩
  · exact OwnN.nil
  · exact OwnN.of (h3.grown hg (some_ne (own_blk_ne h3 k hT))) h2
theorem RowO.low (h : RowO TR TI lo w m) (hg : w.grownBy w' none) : RowO TR TI lo w' m := ⟨h.s.grown0 hg, h.q.grown0 hg⟩
theorem RowO.lt {R : Nat} (h : RowO TR TI lo w m) (hg : w.grownBy w' (some R)) (hR : R < lo) : RowO TR TI lo w' m := ⟨h.s.grown_lt hg hR, h.q.grown_lt hg hR⟩
theorem RowO.typ {B U sz cap n : Nat} {us : List Value} (h : RowO TR TI lo w m) (hg : w.grownBy w' (some B)) (k : Own w B U sz cap n us) (h1 : TR ≠ U) (h2 : TI ≠ U) : RowO TR TI lo w' m := ⟨h.s.typ hg k h1, h.q.typ hg k h2⟩
theorem RowO.mono {lo' : Nat} (h : RowO TR TI lo w m) (hl : lo' ≤ lo) : RowO TR TI lo' w m := ⟨h.s.mono hl, h.q.mono hl⟩
theorem RowO.th (h : RowO TR TI lo w m) : ThAt w m := ⟨OwnN.sl wide_rt (by omega) h.s, OwnN.sl wide_int (by omega) h.q, OwnN.cap0 h.s, OwnN.cap0 h.q⟩
theorem RowO.g (h : RowO TR TI lo w m) : ThG lo w m := ⟨SlG.ownN wide_rt (by omega) h.s, SlG.ownN wide_int (by omega) h.q, OwnN.cap0 h.s, OwnN.cap0 h.q⟩
theorem RowsO.low (h : RowsO TR TI lo w ms) (hg : w.grownBy w' none) : RowsO TR TI lo w' ms := ⟨fun m hm => (h.row m hm).low hg, h.apart⟩
theorem RowsO.lt {R : Nat} (h : RowsO TR TI lo w ms) (hg : w.grownBy w' (some R)) (hR : R < lo) : RowsO TR TI lo w' ms := ⟨fun m hm => (h.row m hm).lt hg hR, h.apart⟩
theorem RowsO.own {B U sz cap n : Nat} {us : List Value} (h : RowsO TR TI lo w ms) (hg : w.grownBy w' (some B)) (k : Own w B U sz cap n us) (h1 : TR ≠ U) (h2 : TI ≠ U) : RowsO TR TI lo w' ms := ⟨fun m hm => (h.row m hm).typ hg k h1 h2, h.apart⟩
theorem RowsO.typB {B : Nat} {U : TypeId} {cs : Array Value} (h : RowsO TR TI lo w ms) (hg : w.grownBy w' (some B)) (k : Blk w B U cs) (h1 : TR ≠ U) (h2 : TI ≠ U) : RowsO TR TI lo w' ms := ⟨fun m hm => ⟨(h.row m hm).s.typB hg k h1, (h.row m hm).q.typB hg k h2⟩, h.apart⟩
theorem RowsO.mono {lo' : Nat} (h : RowsO TR TI lo w ms) (hl : lo' ≤ lo) : RowsO TR TI lo' w ms := ⟨fun m hm => (h.row m hm).mono hl, h.apart⟩
theorem RowsO.ge {b hi : Nat} (h : RowsO TR TI lo w ms) (hg : w.grownBy w' (some b)) (hH : HiO hi ms) (hb : hi ≤ b) : RowsO TR TI lo w' ms :=
  ⟨fun m hm => ⟨(h.row m hm).s.grown hg (fun B e => some_ne (by have := hH m hm B (Or.inl e); omega)), (h.row m hm).q.grown hg (fun B e => some_ne (by have := hH m hm B (Or.inr e); omega))⟩, h.apart⟩
theorem RowsO.newN {l U sz cap n hi : Nat} {a : Option Addr} {us : List Value} (h : RowsO TR TI lo w ms) (hO : OwnN l w a U sz cap n us) (hg : w.grownBy w' (a.map (·.block))) (hH : HiO hi ms) (hl : hi ≤ l) : RowsO TR TI lo w' ms := by
  rcases hO.form with ⟨rfl, _⟩ | ⟨B, rfl, h2, _⟩
  · exact h.low hg
  · exact h.ge hg hH (show hi ≤ B by omega)
theorem ownN_hi {T sz cap n lo c : Nat} {a : Option Addr} {vs : List Value} (h : OwnN lo w a T sz cap n vs) (e : a = some ⟨c, 0, none⟩) : c < w.heap.size ∧ lo ≤ c := by
  rcases h.form with ⟨e2, _⟩ | ⟨B, e2, h2, h3, _⟩
  · rw [e2] at e; cases e
  · rw [e2] at e
    simp only [Option.some.injEq, Addr.mk.injEq, and_true] at e
    omega
theorem RowsO.hi (h : RowsO TR TI lo w ms) : HiO w.heap.size ms := fun m hm c hc => by
  rcases hc with e | e
  · exact (ownN_hi (h.row m hm).s e).1
  · exact (ownN_hi (h.row m hm).q e).1
theorem RowsO.at (h : RowsO TR TI lo w ms) {i : Nat} (hi : i < ms.length) : RowO TR TI lo w (mAt ms i) := h.row _ (List.mem_of_getElem? (mAt_get hi))
theorem RowsO.tab {B T cap : Nat} (h : RowsO TR TI lo w ms) (ho : Own w B T 8 cap ms.length (ms.flatMap MTh.cells)) : TabAt w (some ⟨B, 0, none⟩) ms := ⟨Own.sl wide_mth ho, fun m hm => (h.row m hm).th⟩
theorem RowsO.tabG {B T cap : Nat} (h : RowsO TR TI lo w ms) (ho : Own w B T 8 cap ms.length (ms.flatMap MTh.cells)) (hB : lo ≤ B) : TabG lo w (some ⟨B, 0, none⟩) ms := ⟨SlG.own wide_mth ho hB, fun m hm => (h.row m hm).g⟩
theorem RowsO.nil : RowsO TR TI lo w [] := ⟨(fun m hm => by cases hm), fun i j S hi => absurd hi (Nat.not_lt_zero _)⟩
theorem mAt_set {i j : Nat} (hi : i < ms.length) : mAt (ms.set i m) j = if j = i then m else mAt ms j := by
  unfold mAt
  rw [List.getD_eq_getElem?_getD, List.getD_eq_getElem?_getD, List.getElem?_set]
  by_cases e : j = i
  · subst e
    rw [if_pos rfl, if_pos rfl, if_pos hi]
    rfl
  · rw [if_neg e, if_neg (by omega)]
theorem mAt_same {α : Type} (f : MTh → α) {i j : Nat} {m2 : MTh} (hj : j < ms.length) (h : f m2 = f (mAt ms j)) : f (mAt (ms.set j m2) i) = f (mAt ms i) := by
  rw [mAt_set hj]
  split
  · rename_i e; rw [h, e]
  · rfl
theorem mAt_snoc {j : Nat} (hj : j < (ms ++ [m]).length) : mAt (ms ++ [m]) j = if j = ms.length then m else mAt ms j := by
  have hj' : j ≤ ms.length := by rw [List.length_append, List.length_singleton] at hj; omega
  unfold mAt
  rw [List.getD_eq_getElem?_getD, List.getD_eq_getElem?_getD]
  by_cases e : j = ms.length
  · subst e
    rw [if_pos rfl, List.getElem?_append_right (Nat.le_refl _), Nat.sub_self]
    rfl
  · rw [if_neg e, List.getElem?_append_left (by omega)]
/-- One more row, of memory that is new. -/
theorem RowsO.snoc {hi : Nat} (h : RowsO TR TI lo w ms) (hm : RowO TR TI lo w m) (hH : HiO hi ms) (hS : ∀ S, m.sa = some ⟨S, 0, none⟩ → hi ≤ S) : RowsO TR TI lo w (ms ++ [m]) := by
  refine ⟨fun x hx => ?_, fun i j S hi' hj hne => ?_⟩
  · rcases List.mem_append.1 hx with h1 | h1
    · exact h.row x h1
    · simp at h1; subst h1; exact hm
  · rw [mAt_snoc hi', mAt_snoc hj]
    rw [List.length_append, List.length_singleton] at hi' hj
    split
    · rename_i e1
      rw [if_neg (by omega)]
      intro e2 e3
      have h1 := hS S e2
      have h2 := hH _ (List.mem_of_getElem? (mAt_get (show j < ms.length by omega))) S (Or.inl e3)
      omega
    · rename_i e1
      split
      · intro e2 e3
        have h1 := hS S e3
        have h2 := hH _ (List.mem_of_getElem? (mAt_get (show i < ms.length by omega))) S (Or.inl e2)
        omega
      · exact h.apart i j S (by omega) (by omega) hne
/-- A row is another one; of its slots' memory, or of new one. -/
theorem RowsO.setr {i : Nat} (h : RowsO TR TI lo w ms) (hi : i < ms.length) {m' : MTh} (hm : RowO TR TI lo w m') (hS : ∀ S, m'.sa = some ⟨S, 0, none⟩ → (mAt ms i).sa = some ⟨S, 0, none⟩ ∨ ∀ x ∈ ms, x.sa ≠ some ⟨S, 0, none⟩) : RowsO TR TI lo w (ms.set i m') := by
  refine ⟨fun x hx => ?_, fun a b S ha hb hne => ?_⟩
  · rcases List.mem_or_eq_of_mem_set hx with h1 | rfl
    · exact h.row x h1
    · exact hm
  · rw [List.length_set] at ha hb
    rw [mAt_set hi, mAt_set hi]
    split
    · rename_i e1
      rw [if_neg (by omega)]
      intro e2
      rcases hS S e2 with h1 | h1
      · exact h.apart i b S hi hb (by omega) h1
      · exact h1 _ (List.mem_of_getElem? (mAt_get hb))
    · rename_i e1
      split
      · intro e2 e3
        rcases hS S e3 with h1 | h1
        · exact h.apart a i S ha hi (by omega) e2 h1
        · exact h1 _ (List.mem_of_getElem? (mAt_get ha)) e2
      · exact h.apart a b S ha hb hne
theorem RowsO.set {i : Nat} (h : RowsO TR TI lo w ms) (hi : i < ms.length) {m' : MTh} (hq : m'.qa = (mAt ms i).qa ∧ m'.qc = (mAt ms i).qc ∧ m'.t.queue = (mAt ms i).t.queue) (hs : m'.sa = (mAt ms i).sa ∧ m'.sc = (mAt ms i).sc ∧ m'.t.slots = (mAt ms i).t.slots) : RowsO TR TI lo w (ms.set i m') := by
  obtain ⟨h1, h2, h3⟩ := hq
  obtain ⟨h4, h5, h6⟩ := hs
  refine h.setr hi ⟨?_, ?_⟩ fun S e => Or.inl (by rw [← h4]; exact e)
  · rw [h4, h5, h6]; exact (h.at hi).s
  · rw [h1, h2, h3]; exact (h.at hi).q
theorem RowsO.setq {i : Nat} (h : RowsO TR TI lo w ms) (hi : i < ms.length) {m' : MTh} (hq : OwnN lo w m'.qa TI 1 m'.qc m'.t.queue.length (m'.t.queue.flatMap icell)) (hs : m'.sa = (mAt ms i).sa ∧ m'.sc = (mAt ms i).sc ∧ m'.t.slots = (mAt ms i).t.slots) : RowsO TR TI lo w (ms.set i m') := by
  obtain ⟨h4, h5, h6⟩ := hs
  refine h.setr hi ⟨?_, hq⟩ fun S e => Or.inl (by rw [← h4]; exact e)
  rw [h4, h5, h6]; exact (h.at hi).s
theorem RowsO.setn {i hi' : Nat} (h : RowsO TR TI lo w ms) (hi : i < ms.length) {m' : MTh} (hm : RowO TR TI lo w m') (hH : HiO hi' ms) (hS : ∀ S, m'.sa = some ⟨S, 0, none⟩ → hi' ≤ S) : RowsO TR TI lo w (ms.set i m') :=
  h.setr hi hm fun S e => Or.inr fun x hx e2 => by
    have h1 := hS S e
    have h2 := hH x hx S (Or.inl e2)
    omega
/-- Where a row's slots are. -/
theorem RowsO.slot {i : Nat} (h : RowsO TR TI lo w ms) (hi : i < ms.length) (hs : 0 < (mAt ms i).t.slots.length) : ∃ S : Nat, (mAt ms i).sa = some ⟨S, 0, none⟩ ∧ lo ≤ S ∧ Own w S TR 5 (mAt ms i).sc (mAt ms i).t.slots.length ((mAt ms i).t.slots.flatMap Rt.cells) :=
  (h.at hi).s.some_ hs
end
def putS (m : MTh) (j : Nat) (x : Rt) : MTh := { m with t := { m.t with slots := m.t.slots.set j x } }
def putT (ms : List MTh) (i j : Nat) (x : Rt) : List MTh := ms.set i (putS (mAt ms i) j x)
theorem cells_putS {m : MTh} {j : Nat} {x : Rt} : (putS m j x).cells = m.cells := by simp [MTh.cells, putS]
theorem putT_len {ms : List MTh} {i j : Nat} {x : Rt} : (putT ms i j x).length = ms.length := List.length_set ..
theorem flat_set {ms : List MTh} {m' : MTh} : ∀ (i : Nat), i < ms.length → m'.cells = (mAt ms i).cells → (ms.set i m').flatMap MTh.cells = ms.flatMap MTh.cells := by
  induction ms with
  | nil => intro i hi; exact absurd hi (Nat.not_lt_zero _)
  | cons a l ih =>
    intro i hi e
    cases i with
    | zero => rw [List.set_cons_zero, List.flatMap_cons, List.flatMap_cons, e]; rfl
    | succ i =>
      rw [List.set_cons_succ, List.flatMap_cons, List.flatMap_cons, ih i (by simpa using hi) e]
theorem own_putT {w : World} {B T cap : Nat} {ms : List MTh} {i j : Nat} {x : Rt} (h : Own w B T 8 cap ms.length (ms.flatMap MTh.cells)) (hi : i < ms.length) : Own w B T 8 cap (putT ms i j x).length ((putT ms i j x).flatMap MTh.cells) := by
  rw [putT_len]
  unfold putT
  rw [flat_set i hi cells_putS]
  exact h
theorem RowsO.put {TR TI lo : Nat} {w w' : World} {ms : List MTh} {i k S cap : Nat} {x : Rt} (h : RowsO TR TI lo w ms) (hi : i < ms.length) (hS : (mAt ms i).sa = some ⟨S, 0, none⟩) (hl : lo ≤ S)
    (ho : Own w S TR 5 cap (mAt ms i).t.slots.length ((mAt ms i).t.slots.flatMap Rt.cells)) (hc : cap = (mAt ms i).sc) (hO : Own w' S TR 5 cap ((mAt ms i).t.slots.set k x).length (((mAt ms i).t.slots.set k x).flatMap Rt.cells)) (hg : w.grownBy w' (some S)) (hT : TI ≠ TR) : RowsO TR TI lo w' (putT ms i k x) := by
  subst hc
  refine ⟨fun y hy => ?_, fun a b Z ha hb hne => ?_⟩
  · obtain ⟨j, hj, e⟩ := List.getElem_of_mem hy
    have hy' : y = mAt (putT ms i k x) j := by
      unfold mAt
      rw [List.getD_eq_getElem?_getD, List.getElem?_eq_getElem hj, e]
      rfl
    have hj' : j < ms.length := by rwa [putT_len] at hj
    unfold putT at hy'
    rw [mAt_set hi] at hy'
    split at hy'
    · subst hy'
      refine ⟨?_, (h.at hi).q.typ hg ho hT⟩
      show OwnN lo w' (mAt ms i).sa TR 5 (mAt ms i).sc _ _
      rw [hS]
      exact OwnN.of hO hl
    · rename_i e2
      subst hy'
      refine ⟨(h.at hj').s.grown hg (fun Z hZ => some_ne fun e3 => ?_), (h.at hj').q.typ hg ho hT⟩
      subst e3
      exact h.apart i j Z hi hj' (by omega) hS hZ
  · rw [putT_len] at ha hb
    have hsa : ∀ j, (mAt (putT ms i k x) j).sa = (mAt ms j).sa := fun j => by
      unfold putT
      rw [mAt_set hi]
      split
      · rename_i e; rw [e]; rfl
      · rfl
    rw [hsa, hsa]
    exact h.apart a b Z ha hb hne
theorem putT_again {ms : List MTh} {i j : Nat} {x : Rt} : (putT ms i j x).set i (putS (mAt ms i) j x) = putT ms i j x := by
  unfold putT
  rw [List.set_set]
theorem ownN_le {lo T sz cap n : Nat} {w : World} {a : Option Addr} {vs : List Value} (h : OwnN lo w a T sz cap n vs) : n ≤ cap := by
  rcases h.form with ⟨_, h2, _⟩ | ⟨_, _, _, _, h3⟩
  · omega
  · obtain ⟨_, _, _, h4, _⟩ := h3.blk
    exact h4
theorem TabLen.ok {ms : List MTh} (h : tableOk (tabT ms) = true) : TabLen ms := fun m hm => by
  have h1 := thingOk_parts (row_of h (List.mem_map.2 ⟨m, hm, rfl⟩)).1
  have h5 := h1.2.2.2.2.1
  have h6 := h1.2.2.2.2.2.1
  unfold slotsOk at h5
  unfold queueOk at h6
  constructor
  · split at h5
    · have := of_decide_eq_true (Bool.and_eq_true_iff.1 h5).1
      omega
    · have := of_decide_eq_true h5
      omega
  · split at h6
    · have := of_decide_eq_true (Bool.and_eq_true_iff.1 h6).1
      omega
    · have := of_decide_eq_true h6
      omega
/-! ### what the rows hold, as plain data -/
theorem tabT_set {ms : List MTh} {i : Nat} {m : MTh} : tabT (ms.set i m) = (tabT ms).set i m.t := List.map_set ..
section
variable {ms : List MTh} {q : Cl} {r : Rt}
theorem tab_setTh {k : Int} {m : MTh} : tabT (ms.set (k - 1).toNat m) = setTh (tabT ms) k m.t := tabT_set
theorem tab_putT {k j : Int} {x : Rt} : tabT (putT ms (k - 1).toNat j.toNat x) = putSl (tabT ms) k j x := by
  unfold putT
  rw [tab_setTh]
  unfold putSl
  rw [← mAt_th]
  rfl
theorem far_1 (h : decide (q.kind = 1) = true) : far (tabT ms) q r = (tabT ms, (mAt ms (r.th - 1).toNat).t.num) := by
  unfold far
  rw [if_pos (of_decide_eq_true h), mAt_th]
theorem far_2 (h : decide (q.kind = 2) = true) {m : MTh} (hm : m.t = { (mAt ms (r.th - 1).toNat).t with num := q.n }) : far (tabT ms) q r = (tabT (ms.set (r.th - 1).toNat m), 0) := by
  have h := of_decide_eq_true h
  unfold far
  rw [if_neg (by omega), if_pos h, tab_setTh, hm, mAt_th]
  rfl
theorem far_4 (h : decide (q.kind = 4) = true) {x : Rt} (hx : x = fetched (rAt (mAt ms (r.th - 1).toNat).t.slots (q.n % 4).toNat) r.wk) : far (tabT ms) q r = (tabT (putT ms (q.run - 1).toNat q.b.toNat x), 0) := by
  have h := of_decide_eq_true h
  unfold far
  rw [if_neg (by omega), if_neg (by omega), if_pos h, tab_putT, hx, slotAt_m]
theorem far_5 (h : decide (q.kind = 5) = true) {x : Rt} (hx : x = rAt (mAt ms (q.run - 1).toNat).t.slots q.b.toNat) : far (tabT ms) q r = (tabT (putT ms (r.th - 1).toNat (q.n % 4).toNat x), 0) := by
  have h := of_decide_eq_true h
  unfold far
  rw [if_neg (by omega), if_neg (by omega), if_neg (by omega), if_pos h, tab_putT, hx, slotAt_m]
theorem far_6n (h : decide (q.kind = 6) = true) (hl : ¬ (mAt ms (r.th - 1).toNat).t.queue.length < 3) : far (tabT ms) q r = (tabT ms, -4) := by
  have h := of_decide_eq_true h
  unfold far
  rw [if_neg (by omega), if_neg (by omega), if_neg (by omega), if_neg (by omega), if_pos h, if_neg (by rw [← mAt_th]; exact hl)]
theorem far_6 (h : decide (q.kind = 6) = true) (hl : (mAt ms (r.th - 1).toNat).t.queue.length < 3) {m : MTh} (hm : m.t = { (mAt ms (r.th - 1).toNat).t with queue := (mAt ms (r.th - 1).toNat).t.queue ++ [q.n] }) : far (tabT ms) q r = (tabT (ms.set (r.th - 1).toNat m), 0) := by
  have h := of_decide_eq_true h
  unfold far
  rw [if_neg (by omega), if_neg (by omega), if_neg (by omega), if_neg (by omega), if_pos h, if_pos (by rw [← mAt_th]; exact hl), tab_setTh, hm, mAt_th]
  rfl
theorem far_7n (h : decide (q.kind = 7) = true) (hl : (mAt ms (r.th - 1).toNat).t.queue.length = 0) : far (tabT ms) q r = (tabT ms, -4) := by
  have h := of_decide_eq_true h
  unfold far
  rw [if_neg (by omega), if_neg (by omega), if_neg (by omega), if_neg (by omega), if_neg (by omega), if_pos h, if_pos (by rw [← mAt_th]; exact hl)]
theorem far_7 (h : decide (q.kind = 7) = true) (hl : ¬ (mAt ms (r.th - 1).toNat).t.queue.length = 0) {m : MTh} (hm : m.t = { (mAt ms (r.th - 1).toNat).t with queue := (mAt ms (r.th - 1).toNat).t.queue.drop 1 }) : far (tabT ms) q r = (tabT (ms.set (r.th - 1).toNat m), iAt (mAt ms (r.th - 1).toNat).t.queue 0) := by
  have h := of_decide_eq_true h
  unfold far
  rw [if_neg (by omega), if_neg (by omega), if_neg (by omega), if_neg (by omega), if_neg (by omega), if_pos h, if_neg (by rw [← mAt_th]; exact hl), tab_setTh, hm, mAt_th]
  rfl
theorem far_8n (h : decide (q.kind = 8) = true) (hl : ¬ (mAt ms (r.th - 1).toNat).t.ve < 5) : far (tabT ms) q r = (tabT ms, -4) := by
  have h := of_decide_eq_true h
  unfold far
  rw [if_neg (by omega), if_neg (by omega), if_neg (by omega), if_neg (by omega), if_neg (by omega), if_neg (by omega), if_pos h, if_neg (by rw [← mAt_th]; exact hl)]
theorem far_8 (h : decide (q.kind = 8) = true) (hl : (mAt ms (r.th - 1).toNat).t.ve < 5) {m : MTh} (hm : m.t = renewed (mAt ms (r.th - 1).toNat).t) : far (tabT ms) q r = (tabT (ms.set (r.th - 1).toNat m), 0) := by
  have h := of_decide_eq_true h
  unfold far
  rw [if_neg (by omega), if_neg (by omega), if_neg (by omega), if_neg (by omega), if_neg (by omega), if_neg (by omega), if_pos h, if_pos (by rw [← mAt_th]; exact hl), tab_setTh, hm, mAt_th]
theorem far_9 (h : decide (q.kind = 9) = true) {m m2 : MTh} (h2 : m2.t = { (mAt ms ((mAt ms (r.th - 1).toNat).t.to - 1).toNat).t with num := q.n % 2 }) (hm : m.t = { (mAt ms (r.th - 1).toNat).t with num := min ((mAt ms (r.th - 1).toNat).t.num + 1) 99 }) :
    far (tabT ms) q r = (tabT ((ms.set ((mAt ms (r.th - 1).toNat).t.to - 1).toNat m2).set (r.th - 1).toNat m), 0) := by
  have h := of_decide_eq_true h
  unfold far
  rw [if_neg (by omega), if_neg (by omega), if_neg (by omega), if_neg (by omega), if_neg (by omega), if_neg (by omega), if_neg (by omega), tab_setTh, tab_setTh, hm, h2]
  simp only [mAt_th]
  rfl
theorem renewed_y {t : Th} (h : has4 t.kind = true) : (⟨t.kind, t.lab, t.ve + 1, 0, zeros4, [], t.to⟩ : Th) = renewed t := by unfold renewed newTh; rw [if_pos h]
theorem renewed_n {t : Th} (h : has4 t.kind = false) : (⟨t.kind, t.lab, t.ve + 1, 0, [], [], t.to⟩ : Th) = renewed t := by unfold renewed newTh; rw [if_neg (by rw [h]; exact Bool.false_ne_true)]
end
theorem ve_le {t : Th} (h : thingOk t = true) : (0 ≤ t.ve ∧ t.ve ≤ 5) ∧ (-4 ≤ t.num ∧ t.num ≤ 99) := by
  have h3 := (thingOk_parts h).2.2.1
  have h4 := (thingOk_parts h).2.2.2.1
  unfold versOk at h3
  unfold numOk at h4
  constructor
  · split at h3
    · exact inR_iff.1 h3
    · have := of_decide_eq_true h3
      omega
  · split at h4
    · have := inR_iff.1 h4
      omega
    · split at h4
      · have := inR_iff.1 h4
        omega
      · have := of_decide_eq_true h4
        omega
section
variable {ms ms1 : List MTh} {q : Cl}
theorem farOk_m (hp : callPoss (tabT ms) q = true) (h0 : decide (check1 (tabT ms) q < 0) = false) (h3 : decide (q.kind = 3) = false) (hl : live (tabT ms) (rAt (mAt ms (q.run - 1).toNat).t.slots q.a.toNat) = true) : FarOk (tabT ms) q (rAt (mAt ms (q.run - 1).toNat).t.slots q.a.toNat) := by
  rw [slotAt_m] at hl ⊢
  exact farOk_of hp (of_decide_eq_false h0) (of_decide_eq_false h3) hl
theorem num_m {k n : Int} {m : MTh} (hm : m.t = { (mAt ms (k - 1).toNat).t with num := n }) : tabT (ms.set (k - 1).toNat m) = setNum (tabT ms) k n := by
  rw [tab_setTh, hm, mAt_th]
  rfl
theorem do_neg (h : decide (check1 (tabT ms) q < 0) = true) {m : MTh} (hm : m.t = { (mAt ms (q.run - 1).toNat).t with num := check1 (tabT ms) q }) : doCall (tabT ms) q = (tabT (ms.set (q.run - 1).toNat m), check1 (tabT ms) q) := by
  unfold doCall
  rw [if_pos (of_decide_eq_true h), num_m hm]
theorem do_copy (h : decide (check1 (tabT ms) q < 0) = false) (h3 : decide (q.kind = 3) = true) {x : Rt} (hx : x = lessBits (rAt (mAt ms (q.run - 1).toNat).t.slots q.a.toNat) q.n) {m : MTh} (hm : m.t = { (mAt (putT ms (q.run - 1).toNat q.b.toNat x) (q.run - 1).toNat).t with num := check1 (tabT ms) q }) :
    doCall (tabT ms) q = (tabT ((putT ms (q.run - 1).toNat q.b.toNat x).set (q.run - 1).toNat m), check1 (tabT ms) q) := by
  unfold doCall
  rw [if_neg (of_decide_eq_false h), if_pos (of_decide_eq_true h3), num_m hm, tab_putT, hx, slotAt_m]
theorem do_dead (h : decide (check1 (tabT ms) q < 0) = false) (h3 : decide (q.kind = 3) = false) (hl : live (tabT ms) (rAt (mAt ms (q.run - 1).toNat).t.slots q.a.toNat) = false) {m : MTh} (hm : m.t = { (mAt ms (q.run - 1).toNat).t with num := check1 (tabT ms) q }) : doCall (tabT ms) q = (tabT (ms.set (q.run - 1).toNat m), check1 (tabT ms) q) := by
  rw [slotAt_m] at hl
  unfold doCall
  rw [if_neg (of_decide_eq_false h), if_neg (of_decide_eq_false h3), if_neg (by rw [hl]; exact Bool.false_ne_true), num_m hm]
theorem do_sees (h : decide (check1 (tabT ms) q < 0) = false) (h3 : decide (q.kind = 3) = false) (hl : live (tabT ms) (rAt (mAt ms (q.run - 1).toNat).t.slots q.a.toNat) = true) (ht : tabT ms1 = (far (tabT ms) q (rAt (mAt ms (q.run - 1).toNat).t.slots q.a.toNat)).1)
    (hs : sees (tabT ms1) q.run (rAt (mAt ms (q.run - 1).toNat).t.slots q.a.toNat).th = true) {m : MTh} (hm : m.t = { (mAt ms1 (q.run - 1).toNat).t with num := (far (tabT ms) q (rAt (mAt ms (q.run - 1).toNat).t.slots q.a.toNat)).2 }) :
    doCall (tabT ms) q = (tabT (ms1.set (q.run - 1).toNat m), (far (tabT ms) q (rAt (mAt ms (q.run - 1).toNat).t.slots q.a.toNat)).2) := by
  have h1 := num_m (ms := ms1) hm
  rw [slotAt_m] at hl ht hs h1 ⊢
  unfold doCall told
  rw [if_neg (of_decide_eq_false h), if_neg (of_decide_eq_false h3), if_pos hl, h1, ← ht, if_pos hs]
theorem do_blind (h : decide (check1 (tabT ms) q < 0) = false) (h3 : decide (q.kind = 3) = false) (hl : live (tabT ms) (rAt (mAt ms (q.run - 1).toNat).t.slots q.a.toNat) = true) (ht : tabT ms1 = (far (tabT ms) q (rAt (mAt ms (q.run - 1).toNat).t.slots q.a.toNat)).1)
    (hs : sees (tabT ms1) q.run (rAt (mAt ms (q.run - 1).toNat).t.slots q.a.toNat).th = false) {m : MTh} (hm : m.t = { (mAt ms1 (q.run - 1).toNat).t with num := 0 }) :
    doCall (tabT ms) q = (tabT (ms1.set (q.run - 1).toNat m), 0) := by
  have h1 := num_m (ms := ms1) hm
  rw [slotAt_m] at hl ht hs
  unfold doCall told
  rw [if_neg (of_decide_eq_false h), if_neg (of_decide_eq_false h3), if_pos hl, h1, ← ht, if_neg (by rw [hs]; exact Bool.false_ne_true)]
end
theorem callPoss_of {ts : List Th} {q : Cl} (h1 : tableOk ts = true) (h2 : callOk q = true) (h3 : kindAt ts q.run 3 = true) : callPoss ts q = true := by unfold callPoss; rw [h1, h2, h3]; rfl
/-! ### runs -/
def gateCl (run : Int) : Cl := ⟨9, run, 0, 0, 0⟩
theorem runLoud {ts : List Th} {cs : List Cl} {l : Lab} {run : Int} (h : runQuiet ts cs l = true) (hn : ¬ (cs.length : Int) = 40) (hr : 1 ≤ run ∧ run ≤ (ts.length : Int)) (hk : (thAt ts run).kind = 3) : ¬ runQuiet ts (cs ++ [gateCl run]) l = viewHigh ts run l := by
  unfold runQuiet scriptOk callsIn_ at h
  simp only [Bool.and_eq_true] at h
  obtain ⟨⟨⟨hT, hl, hc⟩, hlab⟩, hq⟩ := h
  have hl := of_decide_eq_true hl
  have h8 : 1 ≤ (ts.length : Int) ∧ (ts.length : Int) ≤ 8 := by
    have := (Bool.and_eq_true_iff.1 (by rw [tableOk_rows] at hT; exact hT)).1
    exact inR_iff.1 this
  have hlen : decide (((cs ++ [gateCl run]).length : Int) ≤ 40) = true := decide_eq_true (by rw [List.length_append, List.length_singleton]; omega)
  have hin : callIn ts (gateCl run) = true := by
    unfold callIn callOk gateCl kindAt
    have e1 : inR run 1 8 = true := inR_iff.2 ⟨hr.1, by omega⟩
    have e2 : inR run 1 (ts.length : Int) = true := inR_iff.2 hr
    simp only [e1, e2, hk]
    decide
  have hv : viewHigh ts run l = !flow (thAt ts run).lab l := by
    unfold viewHigh
    rw [hT, hlab, inR_iff.2 hr]
    rfl
  unfold runQuiet scriptOk callsIn_
  rw [hT, hlen, List.all_append, hc, hlab, List.all_append, hq, hv]
  simp only [List.all_cons, List.all_nil, hin, Bool.and_true, Bool.true_and]
  unfold quietOf lowOf gateCl
  cases flow (thAt ts run).lab l <;> simp
theorem loud_no {ms : List MTh} {cs : List Cl} {l : Lab} {k : Nat} (hq : runQuiet (tabT ms) cs l = true) (hn : ¬ (cs.length : Int) = 40) (hk : 1 ≤ k ∧ k ≤ ms.length) : ¬ (decide ((mAt ms ((k : Int) - 1).toNat).t.kind = 3) && decide (runQuiet (tabT ms) (cs ++ [⟨9, (k : Int), 0, 0, 0⟩]) l = viewHigh (tabT ms) (k : Int) l)) = true := by
  intro h
  rw [Bool.and_eq_true] at h
  have h1 := of_decide_eq_true h.1
  rw [mAt_th] at h1
  exact runLoud hq hn (by rw [tabT_len]; omega) h1 (of_decide_eq_true h.2)
theorem labelOk_mod (m : Nat) : labelOk ⟨(m : Int) % 4, (m : Int) / 4 % 4⟩ = true := (labelOk_iff _).2 ⟨⟨by show (0 : Int) ≤ _ % _; omega, by show _ % _ ≤ (3 : Int); omega⟩, by show (0 : Int) ≤ _ % _; omega, by show _ % _ ≤ (3 : Int); omega⟩
def jn (a b : Lab) : Lab := ⟨bits .or .u64 a.s b.s, bits .and .u64 a.v b.v⟩
def lJoin (a b : Lab) : Lab := if labelOk a && labelOk b then jn a b else ⟨0, 0⟩
theorem bits_rng (a b : Int) (ha : 0 ≤ a ∧ a ≤ 3) (hb : 0 ≤ b ∧ b ≤ 3) : (0 ≤ bits .or .u64 a b ∧ bits .or .u64 a b ≤ 3) ∧ (0 ≤ bits .and .u64 a b ∧ bits .and .u64 a b ≤ 3) := by
  have h1 : a = 0 ∨ a = 1 ∨ a = 2 ∨ a = 3 := by omega
  have h2 : b = 0 ∨ b = 1 ∨ b = 2 ∨ b = 3 := by omega
  rcases h1 with rfl | rfl | rfl | rfl <;> rcases h2 with rfl | rfl | rfl | rfl <;> decide
theorem in_or (x a b : Int) (hx : 0 ≤ x ∧ x ≤ 3) (ha : 0 ≤ a ∧ a ≤ 3) (hb : 0 ≤ b ∧ b ≤ 3) (h : l1In x a = true) : l1In x (bits .or .u64 a b) = true := by
  have h0 : x = 0 ∨ x = 1 ∨ x = 2 ∨ x = 3 := by omega
  have h1 : a = 0 ∨ a = 1 ∨ a = 2 ∨ a = 3 := by omega
  have h2 : b = 0 ∨ b = 1 ∨ b = 2 ∨ b = 3 := by omega
  revert h
  rcases h0 with rfl | rfl | rfl | rfl <;> rcases h1 with rfl | rfl | rfl | rfl <;> rcases h2 with rfl | rfl | rfl | rfl <;> decide
theorem and_in (x a b : Int) (hx : 0 ≤ x ∧ x ≤ 3) (ha : 0 ≤ a ∧ a ≤ 3) (hb : 0 ≤ b ∧ b ≤ 3) (h : l1In a x = true) : l1In (bits .and .u64 a b) x = true := by
  have h0 : x = 0 ∨ x = 1 ∨ x = 2 ∨ x = 3 := by omega
  have h1 : a = 0 ∨ a = 1 ∨ a = 2 ∨ a = 3 := by omega
  have h2 : b = 0 ∨ b = 1 ∨ b = 2 ∨ b = 3 := by omega
  revert h
  rcases h0 with rfl | rfl | rfl | rfl <;> rcases h1 with rfl | rfl | rfl | rfl <;> rcases h2 with rfl | rfl | rfl | rfl <;> decide
theorem flow_join {x l m : Lab} (hx : labelOk x = true) (hl : labelOk l = true) (hm : labelOk m = true) (h : flow x l = true) : flow x (lJoin l m) = true := by
  obtain ⟨x1, x2⟩ := (labelOk_iff x).1 hx
  obtain ⟨l1, l2⟩ := (labelOk_iff l).1 hl
  obtain ⟨m1, m2⟩ := (labelOk_iff m).1 hm
  unfold flow at h ⊢
  rw [Bool.and_eq_true] at h ⊢
  unfold lJoin
  rw [hl, hm]
  exact ⟨in_or _ _ _ x1 l1 m1 h.1, and_in _ _ _ x2 l2 m2 h.2⟩
theorem join_ok {l m : Lab} : labelOk (lJoin l m) = true := by
  unfold lJoin
  split
  · rename_i h
    rw [Bool.and_eq_true] at h
    obtain ⟨l1, l2⟩ := (labelOk_iff l).1 h.1
    obtain ⟨m1, m2⟩ := (labelOk_iff m).1 h.2
    exact (labelOk_iff _).2 ⟨(bits_rng _ _ l1 m1).1, (bits_rng _ _ l2 m2).2⟩
  · decide
theorem join_no {a b : Lab} (h : ((!labelOk a) || (!labelOk b)) = true) : lJoin a b = ⟨0, 0⟩ := by
  unfold lJoin
  cases ha : labelOk a <;> cases hb : labelOk b <;> simp_all
theorem join_yes {a b : Lab} (ha : labelOk a = true) (hb : labelOk b = true) : lJoin a b = jn a b := by unfold lJoin; rw [ha, hb]; rfl
theorem filter_len {α : Type} {p q : α → Bool} : ∀ (l : List α), (∀ x ∈ l, p x = true → q x = true) → (l.filter p).length ≤ (l.filter q).length
  | [], _ => Nat.le_refl _
  | a :: l, h => by
    have ih := filter_len l (fun x hx => h x (List.mem_cons_of_mem _ hx))
    cases hp : p a with
    | true =>
      rw [List.filter_cons_of_pos hp, List.filter_cons_of_pos (h a (List.mem_cons_self ..) hp)]
      simp only [List.length_cons]
      omega
    | false =>
      rw [List.filter_cons_of_neg (by rw [hp]; exact Bool.false_ne_true)]
      cases hq : q a with
      | true => rw [List.filter_cons_of_pos hq]; simp only [List.length_cons]; omega
      | false => rw [List.filter_cons_of_neg (by rw [hq]; exact Bool.false_ne_true)]; exact ih
theorem low_twice {ts : List Th} {cs : List Cl} {l : Lab} : runLow ts (runLow ts cs l) l = runLow ts cs l := by
  by_cases h : (scriptOk ts cs && labelOk l) = true
  · have h' := Bool.and_eq_true_iff.1 h
    have hr : runLow ts cs l = cs.filter (lowOf ts l) := by unfold runLow; rw [if_pos h]
    rw [hr]
    unfold runLow
    have hs : scriptOk ts (cs.filter (lowOf ts l)) = true := by
      unfold scriptOk callsIn_ at h' ⊢
      simp only [Bool.and_eq_true] at h' ⊢
      refine ⟨h'.1.1, decide_eq_true ?_, List.all_eq_true.2 fun x hx => List.all_eq_true.1 h'.1.2.2 x (List.mem_filter.1 hx).1⟩
      have h1 := of_decide_eq_true h'.1.2.1
      have h2 := List.length_filter_le (lowOf ts l) cs
      omega
    rw [hs, h'.2, Bool.and_self, if_pos rfl, List.filter_filter]
    simp
  · have hr : ∀ xs : List Cl, (scriptOk ts xs && labelOk l) = false → runLow ts xs l = [] := fun xs hx => by unfold runLow; rw [hx]; rfl
    have e := hr cs (by simpa using h)
    rw [e]
    cases hl : labelOk l with
    | false => exact hr [] (by rw [hl, Bool.and_false])
    | true =>
      unfold runLow
      split <;> rfl
theorem low_more {ts : List Th} {cs : List Cl} {l m : Lab} (hl : labelOk l = true) (hm : labelOk m = true) : (runLow ts cs l).length ≤ (runLow ts cs (lJoin l m)).length := by
  unfold runLow
  rw [hl, join_ok]
  by_cases h : scriptOk ts cs = true
  · rw [h, Bool.and_self, if_pos rfl, if_pos rfl]
    refine filter_len cs fun x hx hp => ?_
    obtain ⟨hT, _, _⟩ := script_parts h
    unfold scriptOk callsIn_ at h
    simp only [Bool.and_eq_true] at h
    have hin := List.all_eq_true.1 h.2.2 x hx
    unfold callIn at hin
    have hk := kindAt_th (Bool.and_eq_true_iff.1 hin).2
    have hlab := (thingOk_parts (row_at hT hk.1).1).2.1
    unfold lowOf at hp ⊢
    exact flow_join hlab hl hm hp
  · have : scriptOk ts cs = false := by simpa using h
    rw [this]
    exact Nat.le_refl _
/-! ### two rules -/
section
variable {P : Program} {n : Nat} {ops : Array Oper} {K : Fr → World → Prop} {l : List Oper} {f : Fr} {w : World} {ty : TypeId} {pos : String} {aft : Array Edge} {d : Nat}
theorem wpo_min {x y : Operand} {k : IntKind} {a b c : Int} {ts : Array TypeId} (hx : ev f x = .int k a) (hy : ev f y = .int k b) (hc : c = min a b) (hd : Nat.blt d n = true)
    (h : WpO P n ops K l (up f d (.int k c)) w) : WpO P n ops K (⟨some d, .call ⟨.builtin .min, #[x, y], ts⟩, ty, pos, aft, none⟩ :: l) f w := by
  refine wpo_val rfl hd (v := .int k c) (w' := w) ?_ h
  have e : (if b < a then b else a) = c := by rw [hc]; split <;> omega
  simp [execOp, resolve, invoke, builtin, hx, hy, Builtin.min_, Builtin.min2, e]
/-- A slice without its first row. -/
theorem wpo_tail {α : Type} {g : α → List Value} {t e sz m c : Nat} {x y : Operand} {a : Option Addr} {k : IntKind} {xs : List α} (ht : P.underlying t = some (.slice e)) (hs : (P.info? e).map (·.size) = some sz) (hx : ev f x = .slice a m c) (hy : ev f y = .int k 1)
    (hm : m = xs.length) (h1 : 1 ≤ xs.length) (hc : xs.length ≤ c) (ha : SlAt w a sz (xs.map g)) (hd : Nat.blt d n = true)
    (hk : ∀ a', SlAt w (some a') sz ((xs.drop 1).map g) → WpO P n ops K l (up f d (.slice (some a') (xs.drop 1).length (c - 1))) w) : WpO P n ops K (⟨some d, .slice t x (some y) none none, ty, pos, aft, none⟩ :: l) f w := by
  subst hm
  have h10 : xs[0]? = some (xs[0]'(by omega)) := List.getElem?_eq_getElem _
  obtain ⟨b, o, rfl, _⟩ := ha 0 _ (map_get (g := g) h10)
  have hdl : (xs.drop 1).length = xs.length - 1 := List.length_drop
  have hb1 : (Instr.sliceBound (.int k 1) xs.length .sliceB).run P w = .ok 1 w := by
    have : (0 : Int) ≤ 1 ∧ (1 : Int) ≤ (xs.length : Int) := by omega
    simp [Instr.sliceBound, asIntOf, this]
  have h2 : (Instr.sliceBounds true xs.length c (some (.int k 1)) none none).run P w = .ok (1, xs.length, c) w := by
    simp [Instr.sliceBounds, hb1]
  cases hq : P.info? e with
  | none => rw [hq] at hs; cases hs
  | some i =>
    rw [hq] at hs
    simp only [Option.map_some, Option.some.injEq] at hs
    have hz : (sizeOf e).run P w = .ok i.size w := by simp [sizeOf, typeInfo, hq]
    have h3 : (Instr.slice t (.slice (some ⟨b, o, none⟩) xs.length c) (some (.int k 1)) none none).run P w = .ok (.slice (some (if c = 1 then ⟨b, o, none⟩ else (⟨b, o, none⟩ : Addr).add (1 * i.size))) (xs.length - 1) (c - 1)) w := by
      simp [Instr.slice, run_underlying ht, h2, hz]
      split <;> rfl
    have h4 : (Instr.sliceAt t (.slice (some ⟨b, o, none⟩) xs.length c) (some (.int k 1)) none none).run P w = .ok (.slice (some (if c = 1 then ⟨b, o, none⟩ else (⟨b, o, none⟩ : Addr).add (1 * i.size))) (xs.length - 1) (c - 1)) w := by
      simp [Instr.sliceAt, run_underlying ht, h3]
    have hk' := hk (if c = 1 then ⟨b, o, none⟩ else (⟨b, o, none⟩ : Addr).add (1 * i.size)) ?_
    · rw [hdl] at hk'
      exact wpo_val rfl hd (by simp only [execOp, hx, hy, Option.map_none, Option.map_some, Sem.run_bind, h4, Result.andThen_ok]; rfl) hk'
    · intro j z hj
      rw [List.map_drop, List.getElem?_drop] at hj
      obtain ⟨b2, o2, e2, hr⟩ := ha (1 + j) z hj
      simp only [Option.some.injEq, Addr.mk.injEq, and_true] at e2
      obtain ⟨rfl, rfl⟩ := e2
      by_cases hc1 : c = 1
      · have hlt := (List.getElem?_eq_some_iff.1 hj).1
        rw [List.length_map] at hlt
        omega
      · rw [if_neg hc1]
        refine ⟨b, o + sz, ?_, ?_⟩
        · unfold Addr.add
          rw [hs, Nat.one_mul]
          split
          · rename_i h0
            rw [h0]
            rfl
          · rfl
        · rw [show o + sz + j * sz = o + (1 + j) * sz by rw [Nat.add_mul, Nat.one_mul, Nat.add_assoc]]
          exact hr
theorem wpo_indexPtr {t e sz m b o o' : Nat} {x y : Operand} {k : IntKind} {i : Int} (ht : arrTy P t = some (m, e, sz)) (hx : ev f x = .pointer (some ⟨b, o, none⟩)) (hy : ev f y = .int k i) (h0 : 0 ≤ i) (h1 : i < m) (e1 : o + i.toNat * sz = o') (hd : Nat.blt d n = true) (h : WpO P n ops K l (up f d (.pointer (some ⟨b, o', none⟩))) w) :
    WpO P n ops K (⟨some d, .indexAddr t x y, ty, pos, aft, none⟩ :: l) f w := by
  obtain ⟨hu, inf, hq, hs⟩ := arrTy_spec ht
  exact wpo_val rfl hd (by simp [execOp, hx, hy, Instr.indexAt, run_underlying hu, asIntOf, h0, h1, sizeOf, typeInfo, hq, hs, Addr.add_mid, e1, Instr.sureAddr]) h
/-- A call of an interface's method. -/
theorem wpo_invoke {x : Operand} {nm : String} {T : TypeId} {k : FuncId} {rv v0 : Value} {args : Array Operand} {tys : Array TypeId} {vs : List Value} {R : Value → World → Prop} (hk : goFn P k = true) (hx : ev f x = .iface T rv) (hm : ∀ w : World, (Go.method (P.types.size + Made.depth) T rv nm).run P w = .ok (k, v0) w) (ha : args.toList.map (ev f) = vs) (hd : Nat.blt d n = true)
    (hc : CallsR P k (v0 :: vs).toArray w R) (h : ∀ v w', R v w' → WpO P n ops K l (up f d v) w') : WpO P n ops K (⟨some d, .call ⟨.invoke x nm, args, tys⟩, ty, pos, aft, none⟩ :: l) f w :=
  wpo_enter (R := R) (k := k) (args := (v0 :: vs).toArray) rfl hd (by
    have e : args.map (ev f) = vs.toArray := by rw [← ha]; apply Array.ext'; simp
    have e2 : (#[Value.iface T rv] ++ vs.toArray).extract 1 (#[Value.iface T rv] ++ vs.toArray).size = vs.toArray := by apply Array.ext'; simp
    have e3 : (#[v0] ++ vs.toArray) = (v0 :: vs).toArray := by apply Array.ext'; simp
    have e4 : (#[Value.iface T rv] ++ vs.toArray)[0]? = some (Value.iface T rv) := by simp
    simp only [execOp, resolve, invoke, callMethod, hx, e, e2, e4, Sem.run_bind, Sem.run_pure, run_program, Result.andThen_ok, hm, run_callGo hk, e3]) hc h
end
end Go.Dw
