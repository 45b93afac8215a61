/-
  The shell of a law: how its arguments are opened, and what it leaves.
-/
import Derived.Test.YtemimomfjapgiaaDoorR
import Derived.ProofKit
import Derived.Deep.Slices
import Derived.Carry
namespace Go.Dw
open Go.ChangeShapes Go.WideShapes Go.ChangeAt Go.RowKit Go.Deep

def fieldIs (P : Program) (t k off ty : Nat) : Bool :=
  match P.underlying t with
  | some (.struct fs) => match fs[k]? with
    | some fl => fl.offset == off && fl.type == ty
    | none => false
  | _ => false
section
variable {H : Type} {enc : TypeId × Value → H} {P : Program} {w : World} {base : Nat} {spare : Nat → Bool} {held : Bool} {fuel : Nat} {cs : List Value} {x : DataW H × List MemPlace}
theorem trod_len {t : TypeId} {fs : Array Field} (ht : P.underlying t = some (.struct fs)) (h : DataW.trod enc P w base spare held fuel t cs = some x) : cs.length = P.cellsOf t := by
  obtain ⟨_, _, _, _, hl, _⟩ := DataW.trod_struct ht h
  exact hl
theorem trod_field {t k off ty : Nat} (hf : fieldIs P t k off ty = true) (h : DataW.trod enc P w base spare held fuel t cs = some x) :
    cs.length = P.cellsOf t ∧ ∃ n y, DataW.trod enc P w base spare held n ty ((cs.drop off).take (P.cellsOf ty)) = some y := by
  unfold fieldIs at hf
  split at hf
  · rename_i fs hu
    split at hf
    · rename_i fl hfl
      simp only [Bool.and_eq_true, beq_iff_eq] at hf
      obtain ⟨rfl, rfl⟩ := hf
      obtain ⟨xs, n, _, _, hl, hxl, hat⟩ := DataW.trod_struct hu h
      have hk := (Array.getElem?_eq_some_iff.1 hfl).1
      refine ⟨hl, n, xs[k]'(by omega), ?_⟩
      rw [hat k fl hfl, List.getElem?_eq_getElem (by omega)]
    · cases hf
  · cases hf
theorem cell_of_take {off : Nat} {v : Value} (h : (cs.drop off).take 1 = [v]) : cs[off]? = some v := by
  have := congrArg (fun l : List Value => l[0]?) h
  simpa using this
theorem field_int {t k off ty : Nat} (hf : fieldIs P t k off ty = true) (ht : P.underlying ty = some (.int .i64)) (hc : P.cellsOf ty = 1) (h : DataW.trod enc P w base spare held fuel t cs = some x) : ∃ n : Int, cs[off]? = some (.int .i64 n) ∧ (Lit.int .i64 n).wf = true := by
  obtain ⟨_, n, y, hy⟩ := trod_field hf h
  rw [hc] at hy
  obtain ⟨m, hm, _, hw⟩ := DataW.trod_int ht hy
  exact ⟨m, cell_of_take hm, hw⟩
theorem field_bool {t k off ty : Nat} (hf : fieldIs P t k off ty = true) (ht : P.underlying ty = some .bool) (hc : P.cellsOf ty = 1) (h : DataW.trod enc P w base spare held fuel t cs = some x) : ∃ b : Bool, cs[off]? = some (.bool b) := by
  obtain ⟨_, n, y, hy⟩ := trod_field hf h
  rw [hc] at hy
  obtain ⟨m, hm, _⟩ := DataW.trod_bool ht hy
  exact ⟨m, cell_of_take hm⟩
/-- The types that a right is made of. -/
structure RtTy (P : Program) (t i b : TypeId) : Prop where
  f0 : fieldIs P t 0 0 i = true
  f1 : fieldIs P t 1 1 i = true
  f2 : fieldIs P t 2 2 b = true
  f3 : fieldIs P t 3 3 b = true
  f4 : fieldIs P t 4 4 b = true
  c : P.cellsOf t = 5
  ui : P.underlying i = some (.int .i64)
  ub : P.underlying b = some .bool
  ci : P.cellsOf i = 1
  cb : P.cellsOf b = 1
theorem read_rt {t i b : TypeId} (ht : RtTy P t i b) (h : DataW.trod enc P w base spare held fuel t cs = some x) : ∃ r : Rt, cs = r.cells ∧ (Lit.int .i64 r.th).wf = true ∧ (Lit.int .i64 r.ve).wf = true := by
  obtain ⟨n0, h0, w0⟩ := field_int ht.f0 ht.ui ht.ci h
  obtain ⟨n1, h1, w1⟩ := field_int ht.f1 ht.ui ht.ci h
  obtain ⟨b2, h2⟩ := field_bool ht.f2 ht.ub ht.cb h
  obtain ⟨b3, h3⟩ := field_bool ht.f3 ht.ub ht.cb h
  obtain ⟨b4, h4⟩ := field_bool ht.f4 ht.ub ht.cb h
  have hl := (trod_field ht.f0 h).1
  rw [ht.c] at hl
  refine ⟨⟨n0, n1, b2, b3, b4⟩, ?_, w0, w1⟩
  match cs, hl with
  | [c0, c1, c2, c3, c4], _ =>
    simp at h0 h1 h2 h3 h4
    simp [Rt.cells, h0, h1, h2, h3, h4]
theorem read_slice {α : Type} {g : α → List Value} {ok : α → Prop} {t e : TypeId} {sz : Nat} (ht : P.underlying t = some (.slice e)) (hc : P.cellsOf e = sz) (hz : 0 < sz) (hg : Wide g sz) (hrd : ∀ n cs x, DataW.trod enc P w base spare held n e cs = some x → ∃ a, cs = g a ∧ ok a)
    (h : DataW.trod enc P w base spare held fuel t cs = some x) :
    ∃ (a : Option Addr) (xs : List α) (c : Nat), cs = [.slice a xs.length c] ∧ xs.length ≤ c ∧ c ≤ maxLen ∧ SlAt w a sz (xs.map g) ∧ (∀ y ∈ xs, ok y) ∧ (a = none → c = 0) := by
  rcases open_slice ht h with ⟨rfl, _⟩ | ⟨a, len, cap, m, n, D, Pl, rfl, _, hl, hm, hmm, _, hi⟩
  · exact ⟨none, [], 0, rfl, Nat.le_refl _, Nat.zero_le _, fun k x hk => by simp at hk, fun y hy => by simp at hy, fun _ => rfl⟩
  · have hlm : len ≤ m := by
      rw [hmm]; split <;> omega
    have hex : ∀ i : Fin len, ∃ y : α, ok y ∧ ∀ j, j < sz → w.cell? (a.add (i.val * sz + j)) = (g y)[j]? := fun i => by
      obtain ⟨cs', hcs, htr⟩ := hi i.val (by omega)
      obtain ⟨y, rfl, hy⟩ := hrd _ _ _ htr
      rw [hc] at hcs
      obtain ⟨_, _, hat⟩ := World.cells?_some hcs
      refine ⟨y, hy, fun j hj => ?_⟩
      rw [← hat j hj, add_add]
    refine ⟨some a, List.ofFn fun i : Fin len => Classical.choose (hex i), cap, by simp, by simpa using hl, hm, fun k x hk => ?_, fun y hy => ?_, fun hn => by cases hn⟩
    · rw [List.getElem?_map] at hk
      cases hy : (List.ofFn fun i : Fin len => Classical.choose (hex i))[k]? with
      | none => rw [hy] at hk; simp at hk
      | some y =>
        rw [hy] at hk
        obtain rfl : g y = x := by simpa using hk
        have hkl : k < len := by
          have := (List.getElem?_eq_some_iff.1 hy).1
          simpa using this
        have hye : Classical.choose (hex ⟨k, hkl⟩) = y := by
          rw [List.getElem?_ofFn] at hy
          simpa [hkl] using hy
        have hat := (Classical.choose_spec (hex ⟨k, hkl⟩)).2
        rw [hye] at hat
        obtain ⟨b, o, spot⟩ := a
        have hspot : spot = none := by
          obtain ⟨y0, _, hy0⟩ := hex ⟨0, by omega⟩
          have h0 := hy0 0 hz
          obtain ⟨v, hv⟩ : ∃ v, (g y0)[0]? = some v := ⟨_, List.getElem?_eq_getElem (by rw [hg]; exact hz)⟩
          rw [hv] at h0
          have := World.cell?_spot h0
          simpa [Addr.add] using this
        subst hspot
        refine ⟨b, o, rfl, fun j v hj => ?_⟩
        have hjl : j < sz := by rw [← hg y]; exact (List.getElem?_eq_some_iff.1 hj).1
        rw [← hj, ← hat j hjl]
        simp only [Addr.add]
        split
        · rename_i he
          rw [show o + k * sz + j = o by omega]
        · rw [show o + (k * sz + j) = o + k * sz + j by omega]
    · obtain ⟨i, rfl⟩ := List.mem_ofFn.1 hy
      exact (Classical.choose_spec (hex i)).1
theorem open_rt {r : Reach} {b0 : Nat} {t i b : TypeId} {v : Value} {d : DataW H} {p : List MemPlace} (hs : (match P.underlying t with | some (.struct _) => true | _ => false) = true) (ht : RtTy P t i b) (hv : Value.okWide P w r b0 t v) (h : DataW.Trod enc P w base spare held t v d p) :
    ∃ q : Rt, v = .agg q.cells.toArray ∧ (Lit.int .i64 q.th).wf = true ∧ (Lit.int .i64 q.ve).wf = true := by
  cases hu : P.underlying t with
  | none => rw [hu] at hs; cases hs
  | some dd =>
    rw [hu] at hs
    cases dd with
    | struct fs =>
      obtain ⟨cs, rfl, _⟩ := okWide_struct hu hv
      obtain ⟨fuel, hf⟩ := h
      obtain ⟨q, hq, h1, h2⟩ := read_rt ht hf
      refine ⟨q, ?_, h1, h2⟩
      have : cs.toList = q.cells := by simpa [Value.cells] using hq
      rw [← this]
    | _ => cases hs
theorem open_rts {r : Reach} {b0 : Nat} {t e i b : TypeId} {v : Value} {d : DataW H} {p : List MemPlace} (hs : P.underlying t = some (.slice e)) (ht : RtTy P e i b) (hv : Value.okWide P w r b0 t v) (h : DataW.Trod enc P w base spare held t v d p) :
    ∃ (a : Option Addr) (xs : List Rt) (c : Nat), v = .slice a xs.length c ∧ xs.length ≤ 9223372036854775807 ∧ SlAt w a 5 (xs.map Rt.cells) ∧ ∀ y ∈ xs, (Lit.int .i64 y.th).wf = true ∧ (Lit.int .i64 y.ve).wf = true := by
  obtain ⟨a, len, cap, rfl⟩ := okWide_slice hs hv
  obtain ⟨fuel, hf⟩ := h
  obtain ⟨a', xs, c, h1, h2, h3, h4, h5, h7⟩ := read_slice (g := Rt.cells) (ok := fun q => (Lit.int .i64 q.th).wf = true ∧ (Lit.int .i64 q.ve).wf = true) hs ht.c (by omega) wide_rt (fun n cs x hx => read_rt ht hx) hf
  have h6 : Value.slice a len cap = .slice a' xs.length c := by simpa [Value.cells] using h1
  refine ⟨a', xs, c, h6, ?_, h4, h5⟩
  have : maxLen = 9223372036854775807 := by decide
  omega
/-- Opens a structure, whatever its reader. -/
theorem open_st {α : Type} {g : α → List Value} {ok : α → Prop} {r : Reach} {b0 : Nat} {t : TypeId} {v : Value} {d : DataW H} {p : List MemPlace} (hs : (match P.underlying t with | some (.struct _) => true | _ => false) = true)
    (hrd : ∀ n cs x, DataW.trod enc P w base spare held n t cs = some x → ∃ a, cs = g a ∧ ok a) (hv : Value.okWide P w r b0 t v) (h : DataW.Trod enc P w base spare held t v d p) : ∃ q : α, v = .agg (g q).toArray ∧ ok q := by
  cases hu : P.underlying t with
  | none => rw [hu] at hs; cases hs
  | some dd =>
    rw [hu] at hs
    cases dd with
    | struct fs =>
      obtain ⟨cs, rfl, _⟩ := okWide_struct hu hv
      obtain ⟨fuel, hf⟩ := h
      obtain ⟨q, hq, h1⟩ := hrd _ _ _ hf
      refine ⟨q, ?_, h1⟩
      have : cs.toList = g q := by simpa [Value.cells] using hq
      rw [← this]
    | _ => cases hs
/-- Opens a slice, whatever the reader of its elements. -/
theorem open_sl {α : Type} {g : α → List Value} {ok : α → Prop} {r : Reach} {b0 : Nat} {t e sz : Nat} {v : Value} {d : DataW H} {p : List MemPlace} (hs : P.underlying t = some (.slice e)) (hc : P.cellsOf e = sz) (hz : 0 < sz) (hg : Wide g sz)
    (hrd : ∀ n cs x, DataW.trod enc P w base spare held n e cs = some x → ∃ a, cs = g a ∧ ok a) (hv : Value.okWide P w r b0 t v) (h : DataW.Trod enc P w base spare held t v d p) :
    ∃ (a : Option Addr) (xs : List α) (c : Nat), v = .slice a xs.length c ∧ xs.length ≤ 9223372036854775807 ∧ xs.length ≤ c ∧ SlAt w a sz (xs.map g) ∧ ∀ y ∈ xs, ok y := by
  obtain ⟨a, len, cap, rfl⟩ := okWide_slice hs hv
  obtain ⟨fuel, hf⟩ := h
  obtain ⟨a', xs, c, h1, h2, h3, h4, h5, h7⟩ := read_slice hs hc hz hg hrd hf
  have h6 : Value.slice a len cap = .slice a' xs.length c := by simpa [Value.cells] using h1
  refine ⟨a', xs, c, h6, ?_, h2, h4, h5⟩
  have : maxLen = 9223372036854775807 := by decide
  omega
theorem read_b {t : TypeId} (ht : P.underlying t = some (.int .u8)) (h : DataW.trod enc P w base spare held fuel t cs = some x) : ∃ n : Int, cs = bcell n ∧ (0 ≤ n ∧ n ≤ 255) := by
  obtain ⟨n, hn, _, hw⟩ := DataW.trod_int ht h
  refine ⟨n, hn, ?_⟩
  have h2 := Bool.and_eq_true_iff.1 hw
  have h3 := of_decide_eq_true h2.1
  have h4 := of_decide_eq_true h2.2
  exact ⟨h3, h4⟩
theorem read_i {t : TypeId} (ht : P.underlying t = some (.int .i64)) (h : DataW.trod enc P w base spare held fuel t cs = some x) : ∃ n : Int, cs = icell n ∧ (Lit.int .i64 n).wf = true := by
  obtain ⟨n, hn, _, hw⟩ := DataW.trod_int ht h
  exact ⟨n, hn, hw⟩
theorem wf_i64 {n : Int} (h : (Lit.int .i64 n).wf = true) : -9223372036854775808 ≤ n ∧ n ≤ 9223372036854775807 := by
  have h2 := Bool.and_eq_true_iff.1 h
  exact ⟨of_decide_eq_true h2.1, of_decide_eq_true h2.2⟩
/-- The types that a label is made of. -/
structure LabTy (P : Program) (t i : TypeId) : Prop where
  f0 : fieldIs P t 0 0 i = true
  f1 : fieldIs P t 1 1 i = true
  c : P.cellsOf t = 2
  ui : P.underlying i = some (.int .i64)
  ci : P.cellsOf i = 1
def Lab.wf (l : Lab) : Prop := (Lit.int .i64 l.s).wf = true ∧ (Lit.int .i64 l.v).wf = true
theorem read_lab {t i : TypeId} (ht : LabTy P t i) (h : DataW.trod enc P w base spare held fuel t cs = some x) : ∃ l : Lab, cs = l.cells ∧ l.wf := by
  obtain ⟨n0, h0, w0⟩ := field_int ht.f0 ht.ui ht.ci h
  obtain ⟨n1, h1, w1⟩ := field_int ht.f1 ht.ui ht.ci h
  have hl := (trod_field ht.f0 h).1
  rw [ht.c] at hl
  refine ⟨⟨n0, n1⟩, ?_, w0, w1⟩
  match cs, hl with
  | [c0, c1], _ =>
    simp at h0 h1
    simp [Lab.cells, h0, h1]
/-- The types that a call is made of. -/
structure ClTy (P : Program) (t i : TypeId) : Prop where
  f0 : fieldIs P t 0 0 i = true
  f1 : fieldIs P t 1 1 i = true
  f2 : fieldIs P t 2 2 i = true
  f3 : fieldIs P t 3 3 i = true
  f4 : fieldIs P t 4 4 i = true
  c : P.cellsOf t = 5
  ui : P.underlying i = some (.int .i64)
  ci : P.cellsOf i = 1
def Cl.wf (q : Cl) : Prop := (Lit.int .i64 q.kind).wf = true ∧ (Lit.int .i64 q.run).wf = true ∧ (Lit.int .i64 q.a).wf = true ∧ (Lit.int .i64 q.b).wf = true ∧ (Lit.int .i64 q.n).wf = true
theorem read_cl {t i : TypeId} (ht : ClTy P t i) (h : DataW.trod enc P w base spare held fuel t cs = some x) : ∃ l : Cl, cs = l.cells ∧ l.wf := by
  obtain ⟨n0, h0, w0⟩ := field_int ht.f0 ht.ui ht.ci h
  obtain ⟨n1, h1, w1⟩ := field_int ht.f1 ht.ui ht.ci h
  obtain ⟨n2, h2, w2⟩ := field_int ht.f2 ht.ui ht.ci h
  obtain ⟨n3, h3, w3⟩ := field_int ht.f3 ht.ui ht.ci h
  obtain ⟨n4, h4, w4⟩ := field_int ht.f4 ht.ui ht.ci h
  have hl := (trod_field ht.f0 h).1
  rw [ht.c] at hl
  refine ⟨⟨n0, n1, n2, n3, n4⟩, ?_, w0, w1, w2, w3, w4⟩
  match cs, hl with
  | [c0, c1, c2, c3, c4], _ =>
    simp at h0 h1 h2 h3 h4
    simp [Cl.cells, h0, h1, h2, h3, h4]
/-- The types that a thing is made of. -/
structure ThTy (P : Program) (t i lb rs qs re b : TypeId) : Prop where
  f0 : fieldIs P t 0 0 i = true
  f1 : fieldIs P t 1 1 lb = true
  f2 : fieldIs P t 2 3 i = true
  f3 : fieldIs P t 3 4 i = true
  f4 : fieldIs P t 4 5 rs = true
  f5 : fieldIs P t 5 6 qs = true
  f6 : fieldIs P t 6 7 i = true
  c : P.cellsOf t = 8
  ui : P.underlying i = some (.int .i64)
  ci : P.cellsOf i = 1
  cr : P.cellsOf rs = 1
  cq : P.cellsOf qs = 1
  ur : P.underlying rs = some (.slice re)
  uq : P.underlying qs = some (.slice i)
  lab : LabTy P lb i
  rt : RtTy P re i b
/-- What is known of a thing that is handed in. -/
def MTh.inn (w : World) (m : MTh) : Prop := ThAt w m ∧ (m.t.slots.length ≤ 9223372036854775807 ∧ m.t.queue.length ≤ 9223372036854775807) ∧ m.t.lab.wf
theorem read_th {t i lb rs qs re b : TypeId} (ht : ThTy P t i lb rs qs re b) (h : DataW.trod enc P w base spare held fuel t cs = some x) : ∃ m : MTh, cs = m.cells ∧ m.inn w := by
  obtain ⟨n0, h0, w0⟩ := field_int ht.f0 ht.ui ht.ci h
  obtain ⟨_, y1, z1, hz1⟩ := trod_field ht.f1 h
  rw [ht.lab.c] at hz1
  obtain ⟨l, hl1, hl2⟩ := read_lab ht.lab hz1
  obtain ⟨n2, h2, w2⟩ := field_int ht.f2 ht.ui ht.ci h
  obtain ⟨n3, h3, w3⟩ := field_int ht.f3 ht.ui ht.ci h
  obtain ⟨_, y4, z4, hz4⟩ := trod_field ht.f4 h
  rw [ht.cr] at hz4
  obtain ⟨sa, ss, sc, hs1, hs2, hs3, hs4, _, hs5⟩ := read_slice (g := Rt.cells) (ok := fun q => (Lit.int .i64 q.th).wf = true ∧ (Lit.int .i64 q.ve).wf = true) ht.ur ht.rt.c (by omega) wide_rt (fun n cs x hx => read_rt ht.rt hx) hz4
  obtain ⟨_, y5, z5, hz5⟩ := trod_field ht.f5 h
  rw [ht.cq] at hz5
  obtain ⟨qa, qs', qc, hq1, hq2, hq3, hq4, _, hq5⟩ := read_slice (g := icell) (ok := fun q => (Lit.int .i64 q).wf = true) ht.uq ht.ci (by omega) wide_int (fun n cs x hx => read_i ht.ui hx) hz5
  obtain ⟨n6, h6, w6⟩ := field_int ht.f6 ht.ui ht.ci h
  have hl := (trod_field ht.f0 h).1
  rw [ht.c] at hl
  have hmx : maxLen = 9223372036854775807 := by decide
  refine ⟨⟨⟨n0, l, n2, n3, ss, qs', n6⟩, sa, sc, qa, qc⟩, ?_, ⟨hs4, hq4, hs5, hq5⟩, ⟨by dsimp only; omega, by dsimp only; omega⟩, hl2⟩
  match cs, hl with
  | [c0, c1, c2, c3, c4, c5, c6, c7], _ =>
    simp at h0 h2 h3 h6 hs1 hq1
    simp [Lab.cells] at hl1
    simp [MTh.cells, h0, h2, h3, h6, hs1, hq1, hl1]
/-- Every argument reads behind the call as it did ahead of it. -/
theorem trodAll_below (hl : laidOutB P = true) {W W' : World} (hb : Below W.heap.size W W') : ∀ (ts : List TypeId) (vs : List Value) (ds : List (DataW H)) (ps : List MemPlace), ts.all (fun t => P.readableRec t && decide (t < P.types.size)) = true →
    DataW.TrodAll enc P W 0 (fun _ => true) true ts vs ds ps → (∀ y ∈ ps, y.block < W.heap.size) → DataW.TrodAll enc P W' 0 (fun b => decide (b < W.heap.size)) true ts vs ds ps
  | [], _, _, _, _, h, _ => by
    obtain ⟨rfl, rfl, rfl⟩ := trodAll_nil h
    exact rfl
  | t :: ts, _, _, _, ht, h, hlt => by
    obtain ⟨v, vs, d, ds, p, q, rfl, rfl, rfl, h1, h2⟩ := trodAll_cons h
    simp only [List.all_cons, Bool.and_eq_true, decide_eq_true_eq] at ht
    exact ⟨p, q, Below.trod hl ht.1.1 ht.1.2 h1 hb fun y hy => hlt y (List.mem_append_left _ hy), trodAll_below hl hb ts vs ds q ht.2 h2 fun y hy => hlt y (List.mem_append_right _ hy), rfl⟩
/-- What a law leaves: its answer is true, its arguments read as they did. -/
theorem post_true {f : Func} {s : ChangeSpec} {apart handsOn : Bool} {W W' : World} {args : Array Value} {ds gs : List (DataW H)} {before pa : List MemPlace} {tb : TypeId} (hl : laidOutB P = true)
    (hr : f.params.toList.all (fun t => P.readableRec t && decide (t < P.types.size)) = true) (hW : DataW.Whole enc P f.params.toList s.vars apart W args.toList ds gs before)
    (hA : DataW.TrodAll enc P W 0 (fun _ => true) true f.params.toList args.toList ds pa) (hlt : ∀ y ∈ pa, y.block < W.heap.size) (hs : s.fn H (ds ++ gs) = { results := [.lit (.bool true)], args := ds }) (hv : s.vars = [])
    (hres : f.resultTypes = #[tb]) (htb : P.underlying tb = some .bool) (hb : Below W.heap.size W W') : s.post enc P f apart true handsOn false W args (.bool true) W' := by
  refine ⟨ds, gs, before, [], pa, [], hW, ?_, ?_, ?_, hb.frame _, fun h => by cases h⟩
  · rw [hs, hres]
    exact trodAll_mk1 (shut_bool htb _)
  · rw [hs]
    exact trodAll_below hl hb _ _ _ _ hr hA hlt
  · rw [hs, hv]
    rfl
end
end Go.Dw
