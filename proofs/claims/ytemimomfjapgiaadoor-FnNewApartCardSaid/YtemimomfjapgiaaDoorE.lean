/-
  Tables that are drawn: what is known of their memory while it is written.
-/
import Derived.Test.YtemimomfjapgiaaDoorP
namespace Go.Dw
def RB (r : Rt) : Prop := -1 ≤ r.th ∧ r.th ≤ 9 ∧ -1 ≤ r.ve ∧ r.ve ≤ 9
/-- A row of a table that is being drawn: its slots hold some rights; its queue is its own. -/
structure RowD (TR TI lo : Nat) (w : World) (m : MTh) : Prop where
  q : OwnN lo w m.qa TI 1 m.qc m.t.queue.length (m.t.queue.flatMap icell)
  s : ∃ xs : List Rt, OwnN lo w m.sa TR 5 m.sc m.t.slots.length (xs.flatMap Rt.cells) ∧ xs.length = m.t.slots.length ∧ ∀ x ∈ xs, RB x
  ql : m.t.queue.length ≤ 3
  sl : m.t.slots.length ≤ 4
  ve : 0 ≤ m.t.ve ∧ m.t.ve ≤ 1
def RowsD (TR TI lo : Nat) (w : World) (ms : List MTh) : Prop := ∀ m ∈ ms, RowD TR TI lo w m
theorem own_ne {w : World} {B C : Nat} {T U : TypeId} {sz sz' cap cap' n n' : Nat} {vs us : List Value} (h : Own w B T sz cap n vs) (k : Own w C U sz' cap' n' us) (hT : T ≠ U) : B ≠ C := fun e => by
  subst e
  obtain ⟨_, c1, h1, _⟩ := h.blk
  obtain ⟨_, c2, h2, _⟩ := k.blk
  have : some (Obj.cells c1 T (0, 0)) = some (Obj.cells c2 U (0, 0)) := h1.symm.trans h2
  simp only [Option.some.injEq, Obj.cells.injEq] at this
  exact hT this.2.1
theorem OwnN.typ {lo : Nat} {w w' : World} {a : Option Addr} {T U : TypeId} {sz sz' cap cap' n n' B : Nat} {vs us : List Value} (h : OwnN lo w a T sz cap n vs) (hg : w.grownBy w' (some B)) (k : Own w B U sz' cap' n' us) (hT : T ≠ U) : OwnN lo w' a T sz cap n vs := by
  rcases h.form with ⟨rfl, rfl, rfl, rfl⟩ | ⟨C, rfl, h2, _, h3⟩
  · exact OwnN.nil
  · exact OwnN.of (h3.grown hg (some_ne (own_ne h3 k hT))) h2
section
variable {TR TI lo : Nat} {w w' : World} {m : MTh} {ms : List MTh}
theorem RowD.low (h : RowD TR TI lo w m) (hg : w.grownBy w' none) : RowD TR TI lo w' m :=
  ⟨h.q.grown0 hg, let ⟨xs, h1, h2⟩ := h.s; ⟨xs, h1.grown0 hg, h2⟩, h.ql, h.sl, h.ve⟩
theorem RowD.lt {R : Nat} (h : RowD TR TI lo w m) (hg : w.grownBy w' (some R)) (hR : R < lo) : RowD TR TI lo w' m :=
  ⟨h.q.grown_lt hg hR, let ⟨xs, h1, h2⟩ := h.s; ⟨xs, h1.grown_lt hg hR, h2⟩, h.ql, h.sl, h.ve⟩
theorem RowD.typ {B U sz cap n : Nat} {us : List Value} (h : RowD TR TI lo w m) (hg : w.grownBy w' (some B)) (k : Own w B U sz cap n us) (h1 : TR ≠ U) (h2 : TI ≠ U) : RowD TR TI lo w' m :=
  ⟨h.q.typ hg k h2, let ⟨xs, h3, h4⟩ := h.s; ⟨xs, h3.typ hg k h1, h4⟩, h.ql, h.sl, h.ve⟩
theorem RowD.mono {lo' : Nat} (h : RowD TR TI lo w m) (hl : lo' ≤ lo) : RowD TR TI lo' w m :=
  ⟨h.q.mono hl, let ⟨xs, h1, h2⟩ := h.s; ⟨xs, h1.mono hl, h2⟩, h.ql, h.sl, h.ve⟩
theorem RowsD.low (h : RowsD TR TI lo w ms) (hg : w.grownBy w' none) : RowsD TR TI lo w' ms := fun m hm => (h m hm).low hg
theorem RowsD.lt {R : Nat} (h : RowsD TR TI lo w ms) (hg : w.grownBy w' (some R)) (hR : R < lo) : RowsD TR TI lo w' ms := fun m hm => (h m hm).lt hg hR
theorem RowsD.typ {B U sz cap n : Nat} {us : List Value} (h : RowsD TR TI lo w ms) (hg : w.grownBy w' (some B)) (k : Own w B U sz cap n us) (h1 : TR ≠ U) (h2 : TI ≠ U) : RowsD TR TI lo w' ms := fun m hm => (h m hm).typ hg k h1 h2
theorem RowsD.ge {b hi : Nat} (h : RowsD TR TI lo w ms) (hg : w.grownBy w' (some b)) (hH : ∀ m ∈ ms, ∀ c, (m.sa = some ⟨c, 0, none⟩ ∨ m.qa = some ⟨c, 0, none⟩) → c < hi) (hb : hi ≤ b) : RowsD TR TI lo w' ms := fun m hm =>
  ⟨(h m hm).q.grown hg (fun B e => some_ne (by have := hH m hm B (Or.inr e); omega)), let ⟨xs, h1, h2⟩ := (h m hm).s; ⟨xs, h1.grown hg (fun B e => some_ne (by have := hH m hm B (Or.inl e); omega)), h2⟩, (h m hm).ql, (h m hm).sl, (h m hm).ve⟩
theorem RowsD.hi (h : RowsD TR TI lo w ms) : ∀ m ∈ ms, ∀ c, (m.sa = some ⟨c, 0, none⟩ ∨ m.qa = some ⟨c, 0, none⟩) → c < w.heap.size := fun m hm c hc => by
  rcases hc with e | e
  · obtain ⟨xs, h1, _⟩ := (h m hm).s
    rcases h1.form with ⟨e2, _⟩ | ⟨B, e2, _, h3, _⟩
    · rw [e2] at e; cases e
    · rw [e2] at e
      simp only [Option.some.injEq, Addr.mk.injEq, and_true] at e
      omega
  · rcases (h m hm).q.form with ⟨e2, _⟩ | ⟨B, e2, _, h3, _⟩
    · rw [e2] at e; cases e
    · rw [e2] at e
      simp only [Option.some.injEq, Addr.mk.injEq, and_true] at e
      omega
theorem RowsD.snoc (h : RowsD TR TI lo w ms) (hm : RowD TR TI lo w m) : RowsD TR TI lo w (ms ++ [m]) := fun x hx => by
  rcases List.mem_append.1 hx with h1 | h1
  · exact h x h1
  · simp at h1; subst h1; exact hm
theorem RowsD.nil : RowsD TR TI lo w [] := fun x hx => by simp at hx
theorem RowsD.at (h : RowsD TR TI lo w ms) {i : Nat} (hi : i < ms.length) : RowD TR TI lo w (mAt ms i) := h _ (List.mem_of_getElem? (mAt_get hi))
/-- A number of a row is set. -/
theorem RowsD.setk (h : RowsD TR TI lo w ms) {i : Nat} (hi : i < ms.length) {m' : MTh} (hq : m'.qa = (mAt ms i).qa ∧ m'.qc = (mAt ms i).qc ∧ m'.t.queue = (mAt ms i).t.queue) (hs : m'.sa = (mAt ms i).sa ∧ m'.sc = (mAt ms i).sc ∧ m'.t.slots = (mAt ms i).t.slots) (hv : m'.t.ve = (mAt ms i).t.ve) : RowsD TR TI lo w (ms.set i m') := fun x hx => by
  rcases List.mem_or_eq_of_mem_set hx with h1 | rfl
  · exact h x h1
  · have h0 := h.at hi
    obtain ⟨h1, h2, h3⟩ := hq
    obtain ⟨h4, h5, h6⟩ := hs
    refine ⟨?_, ?_, ?_, ?_, ?_⟩
    · rw [h1, h2, h3]; exact h0.q
    · rw [h4, h5, h6]; exact h0.s
    · rw [h3]; exact h0.ql
    · rw [h6]; exact h0.sl
    · rw [hv]; exact h0.ve
/-- Where a slot lies. -/
theorem RowD.slot (h : RowD TR TI lo w m) (hs : 0 < m.t.slots.length) : ∃ (S : Nat) (xs : List Rt), m.sa = some ⟨S, 0, none⟩ ∧ lo ≤ S ∧ Own w S TR 5 m.sc xs.length (xs.flatMap Rt.cells) ∧ xs.length = m.t.slots.length := by
  obtain ⟨xs, h1, h2, h3⟩ := h.s
  obtain ⟨S, ha, hl, ho⟩ := h1.some_ hs
  exact ⟨S, xs, ha, hl, by rw [h2]; exact ho, h2⟩
/-- What a store into a slice's row does to whatever is known of its block. -/
def PutR (T : TypeId) (S k : Nat) (x : Rt) (w w' : World) : Prop := ∀ cap n (ys : List Rt), Own w S T 5 cap n (ys.flatMap Rt.cells) → Own w' S T 5 cap n ((ys.set k x).flatMap Rt.cells)
theorem RowD.put {S k : Nat} {x : Rt} (h : RowD TR TI lo w m) (hp : PutR TR S k x w w') (hg : w.grownBy w' (some S)) (hx : RB x) {cap n : Nat} {us : List Value} (ho : Own w S TR 5 cap n us) (hT : TI ≠ TR) : RowD TR TI lo w' m := by
  refine ⟨h.q.typ hg ho hT, ?_, h.ql, h.sl, h.ve⟩
  obtain ⟨xs, h1, h2, h3⟩ := h.s
  rcases h1.form with ⟨e1, e2, e3, e4⟩ | ⟨C, e1, e2, e3, e4⟩
  · refine ⟨xs, ?_, h2, h3⟩
    rw [e1, e2, e3, e4]
    exact OwnN.nil
  · by_cases hC : C = S
    · subst hC
      refine ⟨xs.set k x, ?_, by rw [List.length_set, h2], fun y hy => ?_⟩
      · rw [e1]; exact OwnN.of (hp _ _ _ e4) e2
      · rcases List.mem_or_eq_of_mem_set hy with h4 | rfl
        · exact h3 y h4
        · exact hx
    · refine ⟨xs, ?_, h2, h3⟩
      rw [e1]
      exact OwnN.of (e4.grown hg (some_ne hC)) e2
theorem RowsD.put {S k : Nat} {x : Rt} (h : RowsD TR TI lo w ms) (hp : PutR TR S k x w w') (hg : w.grownBy w' (some S)) (hx : RB x) {cap n : Nat} {us : List Value} (ho : Own w S TR 5 cap n us) (hT : TI ≠ TR) : RowsD TR TI lo w' ms :=
  fun m hm => (h m hm).put hp hg hx ho hT
end
theorem put_out {cur : List Value} {o m : Nat} {us : List Value} (ho : m ≤ o) (hc : o + us.length ≤ cur.length) : (cur.take o ++ us ++ cur.drop (o + us.length)).take m = cur.take m := by
  rw [List.append_assoc, List.take_append, List.take_take, Nat.min_eq_left ho, List.length_take, Nat.min_eq_left (by omega), show m - o = 0 by omega, List.take_zero, List.append_nil]
section
variable {P : Program} {n : Nat} {ops : Array Oper} {K : Fr → World → Prop} {l : List Oper} {f : Fr} {w : World} {ty : TypeId} {pos : String} {aft : Array Edge} {d : Nat}
theorem wpo_storeD {t b o cap k : Nat} {T : TypeId} {x y : Operand} {ys : List Rt} {z' : Rt} (ht : rowTy P t = some 5) (hx : ev f x = .pointer (some ⟨b, o, none⟩)) (hy : ev f y = .agg z'.cells.toArray)
    (ho : Own w b T 5 cap ys.length (ys.flatMap Rt.cells)) (hk : k < ys.length) (e : o = k * 5)
    (h : ∀ w', PutR T b k z' w w' → w.grownBy w' (some b) → WpO P n ops K l f w') : WpO P n ops K (⟨none, .store t x y, ty, pos, aft, none⟩ :: l) f w := by
  obtain ⟨hl, cur, hb, h2, h3, h4, h5⟩ := ho.blk
  have hlt : k * 5 + 5 ≤ ys.length * 5 := by omega
  have hin : k * 5 + 5 ≤ cur.size := by rw [h4]; omega
  have hsz : cur.toList.length = cap * 5 := by rw [Array.length_toList]; exact h4
  have hz : (Rt.cells z').length = 5 := rfl
  subst e
  refine wpo_unit (w' := w.setRow b (cur.toList.take (k * 5) ++ Rt.cells z' ++ cur.toList.drop (k * 5 + 5)).toArray) rfl rfl (by simp only [execOp, hx, hy, Sem.run_bind, run_storen ht (wide_rt z') (onec_rt z') hb hin, Result.andThen_ok]; rfl) (h _ ?_ (setB_setRow hb _).grw)
  intro cap' n' ys' ho'
  obtain ⟨hl', cur', hb', h2', h3', h4', h5'⟩ := ho'.blk
  have ec : cur' = cur := by
    have : some (Obj.cells cur' T (0, 0)) = some (Obj.cells cur T (0, 0)) := hb'.symm.trans hb
    simpa using this
  subst ec
  have hn' : ys'.length = n' := by
    rw [rows_len wide_rt] at hl'
    omega
  refine Own.ofBlk ?_ (setB_setRow hb _).blk h2' h3' ?_ ?_
  · rw [rows_len wide_rt, List.length_set, hn']
  · rw [List.size_toArray, List.length_append, List.length_append, List.length_take, List.length_drop, hz, hsz, Nat.min_eq_left (by omega)]
    omega
  · have ecap : cap' * 5 = cap * 5 := h4'.symm.trans h4
    by_cases hkn : k < n'
    · have hset := congrArg Array.toList (rows_setA wide_rt (ys := ys') (k := k) (by omega) z')
      have hq := take_put (cur := cur'.toList) (us := Rt.cells z') (o := k * 5) h5' (by omega) (by rw [hz]; omega)
      rw [hz] at hq
      rw [hq]
      simpa using hset
    · have hq := put_out (cur := cur'.toList) (us := Rt.cells z') (o := k * 5) (m := n' * 5) (by omega) (by rw [hz]; omega)
      rw [hz] at hq
      rw [List.toList_toArray, hq, h5', List.set_eq_of_length_le (by omega)]
end
/-- A slice whose memory lies from block lo on. -/
def SlG (lo : Nat) (w : World) (a : Option Addr) (sz : Nat) (xs : List (List Value)) : Prop := ∀ k x, xs[k]? = some x → ∃ b o, a = some ⟨b, o, none⟩ ∧ lo ≤ b ∧ w.rangeAt b (o + k * sz) x
section
variable {lo : Nat} {w w' : World} {a : Option Addr} {sz : Nat} {xs : List (List Value)}
theorem SlG.sl (h : SlG lo w a sz xs) : SlAt w a sz xs := fun k x hk => by
  obtain ⟨b, o, ha, _, hr⟩ := h k x hk
  exact ⟨b, o, ha, hr⟩
theorem SlG.low (h : SlG lo w a sz xs) (hg : w.grownBy w' none) : SlG lo w' a sz xs := fun k x hk => by
  obtain ⟨b, o, ha, hb, hr⟩ := h k x hk
  exact ⟨b, o, ha, hb, range_grown hr hg (by simp)⟩
theorem SlG.lt {R : Nat} (h : SlG lo w a sz xs) (hg : w.grownBy w' (some R)) (hR : R < lo) : SlG lo w' a sz xs := fun k x hk => by
  obtain ⟨b, o, ha, hb, hr⟩ := h k x hk
  exact ⟨b, o, ha, hb, range_grown hr hg (some_ne (by omega))⟩
theorem SlG.mono {lo' : Nat} (h : SlG lo w a sz xs) (hl : lo' ≤ lo) : SlG lo' w a sz xs := fun k x hk => by
  obtain ⟨b, o, ha, hb, hr⟩ := h k x hk
  exact ⟨b, o, ha, Nat.le_trans hl hb, hr⟩
theorem SlG.own {α : Type} {g : α → List Value} (hg : Wide g sz) {ys : List α} {B cap n : Nat} {T : TypeId} (h : Own w B T sz cap n (ys.flatMap g)) (hB : lo ≤ B) : SlG lo w (some ⟨B, 0, none⟩) sz (ys.map g) := fun k x hk => by
  obtain ⟨b, o, ha, hr⟩ := Own.sl hg h k x hk
  simp only [Option.some.injEq, Addr.mk.injEq] at ha
  obtain ⟨rfl, rfl, _⟩ := ha
  exact ⟨_, _, rfl, hB, hr⟩
theorem SlG.ownN {α : Type} {g : α → List Value} (hg : Wide g sz) (h0 : 0 < sz) {ys : List α} {cap n : Nat} {T : TypeId} (h : OwnN lo w a T sz cap n (ys.flatMap g)) : SlG lo w a sz (ys.map g) := fun k x hk => by
  obtain ⟨b, o, ha, hr⟩ := OwnN.sl hg h0 h k x hk
  refine ⟨b, o, ha, ?_, hr⟩
  rcases h.form with ⟨h2, _⟩ | ⟨B, h2, h3, _⟩
  · rw [h2] at ha; cases ha
  · rw [h2] at ha
    simp only [Option.some.injEq, Addr.mk.injEq] at ha
    omega
end
def ThG (lo : Nat) (w : World) (m : MTh) : Prop := SlG lo w m.sa 5 (m.t.slots.map Rt.cells) ∧ SlG lo w m.qa 1 (m.t.queue.map icell) ∧ (m.sa = none → m.sc = 0) ∧ (m.qa = none → m.qc = 0)
def TabG (lo : Nat) (w : World) (a : Option Addr) (ms : List MTh) : Prop := SlG lo w a 8 (ms.map MTh.cells) ∧ ∀ m ∈ ms, ThG lo w m
section
variable {lo : Nat} {w w' : World} {a : Option Addr} {m : MTh} {ms : List MTh}
theorem TabG.at (h : TabG lo w a ms) : TabAt w a ms := ⟨h.1.sl, fun m hm => ⟨(h.2 m hm).1.sl, (h.2 m hm).2.1.sl, (h.2 m hm).2.2⟩⟩
theorem TabG.low (h : TabG lo w a ms) (hg : w.grownBy w' none) : TabG lo w' a ms := ⟨h.1.low hg, fun m hm => ⟨(h.2 m hm).1.low hg, (h.2 m hm).2.1.low hg, (h.2 m hm).2.2⟩⟩
theorem TabG.lt {R : Nat} (h : TabG lo w a ms) (hg : w.grownBy w' (some R)) (hR : R < lo) : TabG lo w' a ms := ⟨h.1.lt hg hR, fun m hm => ⟨(h.2 m hm).1.lt hg hR, (h.2 m hm).2.1.lt hg hR, (h.2 m hm).2.2⟩⟩
theorem TabG.mono {lo' : Nat} (h : TabG lo w a ms) (hl : lo' ≤ lo) : TabG lo' w a ms := ⟨h.1.mono hl, fun m hm => ⟨(h.2 m hm).1.mono hl, (h.2 m hm).2.1.mono hl, (h.2 m hm).2.2⟩⟩
end
/-- The blocks of a table lie below a number. -/
def TabHi (hi : Nat) (a : Option Addr) (ms : List MTh) : Prop := (∀ b o, a = some ⟨b, o, none⟩ → 0 < ms.length → b < hi) ∧ ∀ m ∈ ms, (∀ b o, m.sa = some ⟨b, o, none⟩ → 0 < m.t.slots.length → b < hi) ∧ ∀ b o, m.qa = some ⟨b, o, none⟩ → 0 < m.t.queue.length → b < hi
theorem sl_hi {α : Type} {g : α → List Value} {sz lo : Nat} (hg : Wide g sz) (h0 : 0 < sz) {w : World} {a : Option Addr} {ys : List α} (h : SlG lo w a sz (ys.map g)) : ∀ b o, a = some ⟨b, o, none⟩ → 0 < ys.length → b < w.heap.size := fun b o ha hn => by
  obtain ⟨y, hy⟩ := get_lt hn
  obtain ⟨b', o', ha', _, hr⟩ := h 0 (g y) (map_get hy)
  rw [ha] at ha'
  simp only [Option.some.injEq, Addr.mk.injEq] at ha'
  obtain ⟨rfl, rfl, _⟩ := ha'
  obtain ⟨v, hv⟩ : ∃ v, (g y)[0]? = some v := ⟨_, List.getElem?_eq_getElem (by rw [hg y]; exact h0)⟩
  exact World.block_lt_of_cell? w _ (hr 0 v hv)
theorem TabG.hi {lo : Nat} {w : World} {a : Option Addr} {ms : List MTh} (h : TabG lo w a ms) : TabHi w.heap.size a ms :=
  ⟨sl_hi wide_mth (by omega) h.1, fun m hm => ⟨sl_hi wide_rt (by omega) (h.2 m hm).1, sl_hi wide_int (by omega) (h.2 m hm).2.1⟩⟩
theorem SlG.ge {α : Type} {g : α → List Value} {sz lo hi b : Nat} {w w' : World} {a : Option Addr} {ys : List α} (h : SlG lo w a sz (ys.map g)) (hg : w.grownBy w' (some b)) (hH : ∀ c o, a = some ⟨c, o, none⟩ → 0 < ys.length → c < hi) (hb : hi ≤ b) : SlG lo w' a sz (ys.map g) := fun k x hk => by
  obtain ⟨c, o, ha, hc, hr⟩ := h k x hk
  have hn : 0 < ys.length := by
    have := (List.getElem?_eq_some_iff.1 hk).1
    rw [List.length_map] at this
    omega
  have := hH c o ha hn
  exact ⟨c, o, ha, hc, range_grown hr hg (some_ne (by omega))⟩
theorem TabG.ge {lo hi b : Nat} {w w' : World} {a : Option Addr} {ms : List MTh} (h : TabG lo w a ms) (hg : w.grownBy w' (some b)) (hH : TabHi hi a ms) (hb : hi ≤ b) : TabG lo w' a ms :=
  ⟨h.1.ge hg hH.1 hb, fun m hm => ⟨(h.2 m hm).1.ge hg (hH.2 m hm).1 hb, (h.2 m hm).2.1.ge hg (hH.2 m hm).2 hb, (h.2 m hm).2.2⟩⟩
/-- Small things: so long at most. -/
def Small (ms : List MTh) : Prop := ∀ m ∈ ms, m.t.slots.length ≤ 4 ∧ m.t.queue.length ≤ 3
theorem Small.len {ms : List MTh} (h : Small ms) : TabLen ms := fun m hm => ⟨by have := h m hm; omega, by have := h m hm; omega⟩
/-- In the end the table is what its memory holds. -/
theorem RowsD.tab {TR TI lo : Nat} {w : World} : ∀ (ms : List MTh), RowsD TR TI lo w ms → ∃ ms' : List MTh, ms'.map MTh.cells = ms.map MTh.cells ∧ (∀ m ∈ ms', ThG lo w m) ∧ Small ms'
  | [], _ => ⟨[], rfl, fun m hm => by simp at hm, fun m hm => by simp at hm⟩
  | m :: ms, h => by
    obtain ⟨ms', h1, h2, h5⟩ := RowsD.tab ms fun x hx => h x (List.mem_cons_of_mem _ hx)
    have hm := h m (List.mem_cons_self ..)
    obtain ⟨xs, h3, h4, _⟩ := hm.s
    refine ⟨⟨{ m.t with slots := xs }, m.sa, m.sc, m.qa, m.qc⟩ :: ms', ?_, ?_, ?_⟩
    · rw [List.map_cons, List.map_cons, h1]
      simp only [MTh.cells, h4]
    · intro x hx
      rcases List.mem_cons.1 hx with rfl | hx
      · exact ⟨SlG.ownN wide_rt (by omega) h3, SlG.ownN wide_int (by omega) hm.q, fun e => h3.cap0 e, fun e => hm.q.cap0 e⟩
      · exact h2 x hx
    · intro x hx
      rcases List.mem_cons.1 hx with rfl | hx
      · refine ⟨?_, hm.ql⟩
        show xs.length ≤ 4
        rw [h4]; exact hm.sl
      · exact h5 x hx
theorem tab_flat {ms ms' : List MTh} (h : ms'.map MTh.cells = ms.map MTh.cells) : ms'.flatMap MTh.cells = ms.flatMap MTh.cells := by
  rw [List.flatMap_def, List.flatMap_def, h]
theorem viewHigh_law {ms : List MTh} {k : Int} {l : Lab} (ht : tableOk (tabT ms) = true) (hl : labelOk l = true) (h1 : 1 ≤ k) (h2 : k ≤ (ms.length : Int)) : viewHigh (tabT ms) k l = !labelFlow (mAt ms (k - 1).toNat).t.lab l := by
  rw [← viewHigh_i, ht, hl, inR_iff.2 ⟨h1, h2⟩]
  rfl
end Go.Dw
