/-
  Blocks that hold the rows of a list; slices that are made.
-/
import Derived.Test.YtemimomfjapgiaaDoorM
import Derived.Test.YtemimomfjapgiaaDoorD
import Derived.Laws.MakeOwn
import Derived.Maps.AppendAt
import Derived.Laws.OwnMore
namespace Go.Dw
set_option linter.unusedSimpArgs false
set_option linter.unusedVariables false
open Go.RowKit

/-- Each element is so many cells. -/
def Wide {α : Type} (g : α → List Value) (sz : Nat) : Prop := ∀ a, (g a).length = sz
theorem wide_rt : Wide Rt.cells 5 := fun _ => rfl
theorem wide_int : Wide icell 1 := fun _ => rfl
theorem wide_mth : Wide MTh.cells 8 := fun _ => rfl
theorem onec_rt : ∀ q : Rt, ∀ u ∈ q.cells, u.oneCell' = true := fun q u hu => by simp [Rt.cells] at hu; rcases hu with rfl | rfl | rfl | rfl | rfl <;> rfl
theorem onec_int : ∀ q : Int, ∀ u ∈ icell q, u.oneCell' = true := fun q u hu => by simp [icell] at hu; subst hu; rfl
theorem onec_mth : ∀ q : MTh, ∀ u ∈ q.cells, u.oneCell' = true := fun q u hu => by simp [MTh.cells] at hu; rcases hu with rfl | rfl | rfl | rfl | rfl | rfl | rfl | rfl <;> rfl
section
variable {α : Type} {g : α → List Value} {sz : Nat}
theorem rows_len (hg : Wide g sz) : ∀ ys : List α, (ys.flatMap g).length = ys.length * sz
  | [] => by simp
  | y :: ys => by
    simp only [List.flatMap_cons, List.length_append, rows_len hg ys, List.length_cons, hg y, Nat.add_mul]
    omega
theorem rows_drop (hg : Wide g sz) : ∀ (ys : List α) (k : Nat), (ys.flatMap g).drop (k * sz) = (ys.drop k).flatMap g
  | ys, 0 => by simp
  | [], k + 1 => by simp
  | y :: ys, k + 1 => by
    rw [List.flatMap_cons, List.drop_append, List.drop_eq_nil_of_le (by rw [hg y, Nat.add_mul]; omega), hg y, List.nil_append, show (k + 1) * sz - sz = k * sz by rw [Nat.add_mul]; omega, rows_drop hg ys k]
    rfl
theorem rows_take (hg : Wide g sz) : ∀ (ys : List α) (k : Nat), (ys.flatMap g).take (k * sz) = (ys.take k).flatMap g
  | ys, 0 => by simp
  | [], k + 1 => by simp
  | y :: ys, k + 1 => by
    rw [List.flatMap_cons, List.take_append, List.take_of_length_le (by rw [hg y, Nat.add_mul]; omega), hg y, show (k + 1) * sz - sz = k * sz by rw [Nat.add_mul]; omega, rows_take hg ys k]
    rfl
theorem drop_split {ys : List α} {k : Nat} {x : α} (hk : ys[k]? = some x) : ys.drop k = x :: ys.drop (k + 1) := by
  obtain ⟨hl, rfl⟩ := List.getElem?_eq_some_iff.1 hk
  exact List.drop_eq_getElem_cons hl
theorem rows_get (hg : Wide g sz) {ys : List α} {k : Nat} {x : α} (hk : ys[k]? = some x) {j : Nat} {v : Value} (hj : (g x)[j]? = some v) : (ys.flatMap g)[k * sz + j]? = some v := by
  have h := congrArg (fun l : List Value => l[j]?) (rows_drop hg ys k)
  simp only [List.getElem?_drop] at h
  rw [h, drop_split hk, List.flatMap_cons, List.getElem?_append_left (List.getElem?_eq_some_iff.1 hj).1, hj]
theorem rows_setA (hg : Wide g sz) {ys : List α} {k : Nat} (hk : k < ys.length) (x : α) :
    ((ys.flatMap g).toArray.toList.take (k * sz) ++ g x ++ (ys.flatMap g).toArray.toList.drop (k * sz + sz)).toArray = ((ys.set k x).flatMap g).toArray := by
  have e : k * sz + sz = (k + 1) * sz := by rw [Nat.add_mul]; omega
  rw [e, rows_take hg, rows_drop hg, List.set_eq_take_append_cons_drop, if_pos hk]
  simp [List.flatMap_append]
theorem set_row (x : List Value) (l : List Value) (j : Nat) (v : Value) (hj : j < x.length) : (x ++ l).set j v = x.set j v ++ l := by
  rw [List.set_append_left _ _ hj]
theorem rows_set1 (hg : Wide g sz) {ys : List α} {k : Nat} {x : α} (hk : ys[k]? = some x) (x' : α) {j : Nat} {v : Value} (hj : j < sz) (hv : (g x).set j v = g x') :
    (ys.flatMap g).toArray.setIfInBounds (k * sz + j) v = ((ys.set k x').flatMap g).toArray := by
  have hl := (List.getElem?_eq_some_iff.1 hk).1
  have e : (ys.flatMap g) = (ys.take k).flatMap g ++ (g x ++ (ys.drop (k + 1)).flatMap g) := by
    conv => lhs; rw [← List.take_append_drop k ys, List.flatMap_append, drop_split hk, List.flatMap_cons]
  have hlen : ((ys.take k).flatMap g).length = k * sz := by rw [rows_len hg, List.length_take, Nat.min_eq_left (Nat.le_of_lt hl)]
  rw [List.setIfInBounds_toArray]
  refine congrArg List.toArray ?_
  rw [e, List.set_append_right _ _ (by omega), hlen, show k * sz + j - k * sz = j by omega, set_row _ _ _ _ (by rw [hg]; exact hj), hv, List.set_eq_take_append_cons_drop, if_pos hl, List.flatMap_append, List.flatMap_cons]
theorem rows_le (hg : Wide g sz) {ys : List α} {k : Nat} (hk : k < ys.length) : k * sz + sz ≤ (ys.flatMap g).toArray.size := by
  rw [List.size_toArray, rows_len hg]
  have : (k + 1) * sz ≤ ys.length * sz := Nat.mul_le_mul_right _ hk
  rwa [Nat.add_mul, Nat.one_mul] at this
theorem rows_lt (hg : Wide g sz) {ys : List α} {k : Nat} (hk : k < ys.length) {j : Nat} (hj : j < sz) : k * sz + j < (ys.flatMap g).toArray.size := by
  have := rows_le hg hk
  omega
theorem get_set {α : Type} {L : List α} {k : Nat} {x y : α} (h : L[k]? = some x) : (L.set k y)[k]? = some y := by
  rw [List.getElem?_set_self (List.getElem?_eq_some_iff.1 h).1]
theorem rows_lt1 (hg : Wide g sz) {L : List α} {k : Nat} {x : α} (hx : L[k]? = some x) {j : Nat} (hj : j < sz) : k * sz + j < (L.flatMap g).toArray.size := rows_lt hg (List.getElem?_eq_some_iff.1 hx).1 hj
theorem rows_lt2 (hg : Wide g sz) {L : List α} {k : Nat} {x y : α} (hx : L[k]? = some x) {j : Nat} (hj : j < sz) : k * sz + j < ((L.set k y).flatMap g).toArray.size := rows_lt1 hg (get_set hx) hj
theorem rows_set2 (hg : Wide g sz) {L : List α} {k : Nat} {x y : α} (hx : L[k]? = some x) (x' : α) {j : Nat} {v : Value} (hj : j < sz) (hv : (g y).set j v = g x') :
    ((L.set k y).flatMap g).toArray.setIfInBounds (k * sz + j) v = ((L.set k x').flatMap g).toArray := by
  have h := rows_set1 hg (get_set (y := y) hx) x' hj hv
  rwa [List.set_set] at h
theorem rows_range (hg : Wide g sz) {ys : List α} {w : World} {B : Nat} {T : TypeId} (h : Blk w B T (ys.flatMap g).toArray) {k : Nat} {x : α} (hk : ys[k]? = some x) : w.rangeAt B (k * sz) (g x) :=
  h.range fun j v hj => by
    rw [List.getElem?_toArray]
    exact rows_get hg hk hj
theorem rows_sl (hg : Wide g sz) {ys : List α} {w : World} {B : Nat} {T : TypeId} (h : Blk w B T (ys.flatMap g).toArray) : SlAt w (some ⟨B, 0, none⟩) sz (ys.map g) := fun k x hk => by
  rw [List.getElem?_map] at hk
  cases hy : ys[k]? with
  | none => rw [hy] at hk; simp at hk
  | some y =>
    rw [hy] at hk
    obtain rfl : g y = x := by simpa using hk
    exact ⟨B, 0, rfl, by rw [Nat.zero_add]; exact rows_range hg h hy⟩
/-- A list that is filled from the front. -/
def fill (xs : List α) (z : α) (k : Nat) : List α := xs.take k ++ List.replicate (xs.length - k) z
theorem fill_zero (xs : List α) (z : α) : fill xs z 0 = List.replicate xs.length z := by simp [fill]
theorem fill_len {xs : List α} {z : α} {k : Nat} (hk : k ≤ xs.length) : (fill xs z k).length = xs.length := by
  simp [fill]
  omega
theorem fill_lt {xs : List α} {z : α} {k : Nat} {x : α} (hx : xs[k]? = some x) : k < (fill xs z k).length := by
  have := (List.getElem?_eq_some_iff.1 hx).1
  rw [fill_len (by omega)]
  exact this
theorem fill_set {xs : List α} {z : α} {k : Nat} {x : α} (hx : xs[k]? = some x) : (fill xs z k).set k x = fill xs z (k + 1) := by
  have hl := (List.getElem?_eq_some_iff.1 hx).1
  unfold fill
  rw [List.set_append_right _ _ (by simp; omega), List.length_take, Nat.min_eq_left (by omega), Nat.sub_self, List.take_add_one, hx]
  rw [show xs.length - k = (xs.length - (k + 1)) + 1 by omega, List.replicate_succ]
  simp
theorem fill_all {xs : List α} {z : α} {k : Nat} (hk : xs.length ≤ k) : fill xs z k = xs := by
  unfold fill
  rw [List.take_of_length_le hk, Nat.sub_eq_zero_of_le hk]
  simp
theorem made_rows {z : α} (hg : Wide g sz) (h0 : 0 < sz) : ∀ c : Nat, madeCells (g z).toArray (c * sz) = ((List.replicate c z).flatMap g).toArray := fun c => by
  apply Array.ext'
  refine List.ext_getElem? fun i => ?_
  have hl : ((List.replicate c z).flatMap g).length = c * sz := by rw [rows_len hg, List.length_replicate]
  by_cases hi : i < c * sz
  · have hd : i = (i / sz) * sz + i % sz := by rw [Nat.mul_comm]; exact (Nat.div_add_mod i sz).symm
    have hm : i % sz < sz := Nat.mod_lt _ h0
    have hq : i / sz < c := (Nat.div_lt_iff_lt_mul h0).2 hi
    have h1 : (List.replicate c z)[i / sz]? = some z := by simp [hq]
    have h2 : (g z)[i % sz]? = some ((g z)[i % sz]'(by rw [hg z]; exact hm)) := List.getElem?_eq_getElem (by rw [hg z]; exact hm)
    have h3 := rows_get hg h1 h2
    rw [← hd] at h3
    simp only [List.toList_toArray]
    rw [h3]
    simp only [madeCells, Array.toList_map, Array.toList_range, List.getElem?_map, List.getElem?_range hi, Option.map_some, List.size_toArray, hg z]
    rw [getElem!_def, List.getElem?_toArray, h2]
  · rw [List.getElem?_eq_none (by simp [madeCells]; omega), List.getElem?_eq_none (by simp only [List.toList_toArray]; omega)]
end
def mkTy (P : Program) (t : TypeId) : Option (TypeId × Nat × Nat × Option Value) :=
  match P.underlying t with
  | some (.slice e) => (P.info? e).map fun i => (e, i.size, i.bytes, i.zero)
  | _ => none
section
variable {P : Program} {n : Nat} {ops : Array Oper} {K : Fr → World → Prop} {l : List Oper} {f : Fr} {w : World} {ty : TypeId} {pos : String} {aft : Array Edge} {d : Nat}
theorem wpo_make {α : Type} {g : α → List Value} {z : α} {t e sz bytes c : Nat} {v : Value} {x y : Operand} (ht : mkTy P t = some (e, sz, bytes, some v)) (hv : v.cells = (g z).toArray) (hg : Wide g sz) (h0 : 0 < sz)
    (hx : ev f x = .int .i64 (c : Int)) (hy : ev f y = .int .i64 (c : Int)) (hb : bytes * c ≤ 281474976710656) (h63 : c ≤ 9223372036854775807) (hd : Nat.blt d n = true)
    (h : ∀ B w', NewB w w' B e ((List.replicate c z).flatMap g).toArray → WpO P n ops K l (up f d (.slice (some ⟨B, 0, none⟩) c c)) w') : WpO P n ops K (⟨some d, .makeSlice t x y, ty, pos, aft, none⟩ :: l) f w := by
  unfold mkTy at ht
  split at ht
  · rename_i el hu
    cases hq : P.info? el with
    | none => rw [hq] at ht; cases ht
    | some i =>
      rw [hq] at ht
      simp only [Option.map_some, Option.some.injEq, Prod.mk.injEq] at ht
      obtain ⟨rfl, rfl, rfl, hz⟩ := ht
      have hr := run_make (P := P) w t el i v hu hq hz .i64 .i64 (c : Int) (c : Int) (by omega) (Int.le_refl _) (by omega) (by omega)
      rw [hv, Int.toNat_natCast, made_rows hg h0] at hr
      exact wpo_val rfl hd (by simp only [execOp, hx, hy, Sem.run_bind, hr, Result.andThen_ok]; rfl) (h _ _ (newB_alloc w el _))
  · cases ht
end
/-! ### what the readers want -/
def bcell (n : Int) : List Value := [.int .u8 n]

theorem xor_pos {x y : Int} (hx : 0 ≤ x) (hx2 : x < 4611686018427387904) (hy : 0 ≤ y) (hy2 : y < 4611686018427387904) : 0 ≤ bits .xor .i64 x y ∧ bits .xor .i64 x y < 4611686018427387904 := by
  obtain ⟨m, rfl⟩ := Int.eq_ofNat_of_zero_le hx
  obtain ⟨k, rfl⟩ := Int.eq_ofNat_of_zero_le hy
  have h1 : m ^^^ k < 2 ^ 62 := Nat.xor_lt_two_pow (by omega) (by omega)
  have h2 : (BitVec.ofInt 64 (m : Int) ^^^ BitVec.ofInt 64 (k : Int)).toNat = m ^^^ k := by
    rw [BitVec.toNat_xor, BitVec.toNat_ofInt, BitVec.toNat_ofInt]
    congr 1 <;> omega
  have h3 : bits .xor .i64 (m : Int) (k : Int) = ((m ^^^ k : Nat) : Int) := by
    show IntKind.i64.wrap (((BitVec.ofInt 64 (m : Int) ^^^ BitVec.ofInt 64 (k : Int)).toNat : Nat) : Int) = _
    rw [h2, IntKind.wrap_i64]
    omega
  rw [h3]
  omega
/-- A slice whose memory lies below block lo. -/
def SlLt (lo : Nat) (w : World) (a : Option Addr) (sz : Nat) (xs : List (List Value)) : Prop := ∀ k x, xs[k]? = some x → ∃ b o, a = some ⟨b, o, none⟩ ∧ b < lo ∧ w.rangeAt b (o + k * sz) x
theorem SlLt.sl {lo : Nat} {w : World} {a : Option Addr} {sz : Nat} {xs : List (List Value)} (h : SlLt lo w a sz xs) : SlAt w a sz xs := fun k x hk => by
  obtain ⟨b, o, ha, _, hr⟩ := h k x hk
  exact ⟨b, o, ha, hr⟩
theorem SlLt.low0 {lo : Nat} {w w' : World} {a : Option Addr} {sz : Nat} {xs : List (List Value)} (h : SlLt lo w a sz xs) (hg : w.grownBy w' none) : SlLt lo w' a sz xs := fun k x hk => by
  obtain ⟨b, o, ha, hb, hx⟩ := h k x hk
  exact ⟨b, o, ha, hb, range_grown hx hg (by simp)⟩
theorem SlLt.low1 {lo : Nat} {w w' : World} {a : Option Addr} {sz : Nat} {xs : List (List Value)} (h : SlLt lo w a sz xs) {c : Nat} (hg : w.grownBy w' (some c)) (hc : lo ≤ c) : SlLt lo w' a sz xs := fun k x hk => by
  obtain ⟨b, o, ha, hb, hx⟩ := h k x hk
  exact ⟨b, o, ha, hb, range_grown hx hg (some_ne (by omega))⟩
theorem SlLt.at {lo : Nat} {w : World} {a : Option Addr} {sz k : Nat} {xs : List (List Value)} {x : List Value} (h : SlLt lo w a sz xs) (hk : xs[k]? = some x) : ∃ b q o, a = some ⟨b, q, none⟩ ∧ q + k * sz = o ∧ b < lo ∧ w.rangeAt b o x := by
  obtain ⟨b, o, ha, hb, hr⟩ := h k x hk
  exact ⟨b, o, _, ha, rfl, hb, hr⟩
theorem SlLt.take {α : Type} {g : α → List Value} {lo : Nat} {w : World} {a : Option Addr} {sz : Nat} {xs : List α} (h : SlLt lo w a sz (xs.map g)) (m : Nat) : SlLt lo w a sz ((xs.take m).map g) := fun k x hk => by
  refine h k x ?_
  rw [List.getElem?_map, List.getElem?_take] at hk
  rw [List.getElem?_map]
  split at hk
  · exact hk
  · simp at hk
theorem SlAt.lt {α : Type} {g : α → List Value} {w : World} {a : Option Addr} {sz : Nat} {xs : List α} (hg : Wide g sz) (h0 : 0 < sz) (h : SlAt w a sz (xs.map g)) : SlLt w.heap.size w a sz (xs.map g) := fun k x hk => by
  obtain ⟨b, o, ha, hr⟩ := h k x hk
  refine ⟨b, o, ha, ?_, hr⟩
  rw [List.getElem?_map] at hk
  cases hy : xs[k]? with
  | none => rw [hy] at hk; simp at hk
  | some y =>
    rw [hy] at hk
    obtain rfl : g y = x := by simpa using hk
    obtain ⟨v, hv⟩ : ∃ v, (g y)[0]? = some v := ⟨_, List.getElem?_eq_getElem (by rw [hg y]; exact h0)⟩
    exact World.block_lt_of_cell? w _ (hr 0 v hv)
theorem wide_b : Wide bcell 1 := fun _ => rfl
section
variable {P : Program} {n : Nat} {ops : Array Oper} {K : Fr → World → Prop} {l : List Oper} {f : Fr} {w : World} {ty : TypeId} {pos : String} {aft : Array Edge} {d : Nat}
/-- A slice is cut behind. -/
theorem wpo_cut {t : TypeId} {x y : Operand} {a : Option Addr} {m c h : Nat} {k : IntKind} {e sz : Nat} (ht : P.underlying t = some (.slice e)) (hs : (P.info? e).map (·.size) = some sz) (hx : ev f x = .slice a m c) (hy : ev f y = .int k (h : Int)) (hc : h ≤ c) (hd : Nat.blt d n = true)
    (hk : WpO P n ops K l (up f d (.slice a h c)) w) : WpO P n ops K (⟨some d, .slice t x none (some y) none, ty, pos, aft, none⟩ :: l) f w :=
  wpo_val rfl hd (by
    have h1 : (Instr.sliceBound (.int k (h : Int)) c .sliceAcap).run P w = .ok h w := by
      have : (0 : Int) ≤ (h : Int) ∧ (h : Int) ≤ (c : Int) := by omega
      simp [Instr.sliceBound, asIntOf, this]
    have h2 : (Instr.sliceBounds true m c none (some (.int k (h : Int))) none).run P w = .ok (0, h, c) w := by
      simp [Instr.sliceBounds, h1]
    cases hq : P.info? e with
    | none => rw [hq] at hs; cases hs
    | some i =>
      have hz : (sizeOf e).run P w = .ok i.size w := by simp [sizeOf, typeInfo, hq]
      have hv : (if c = 0 then a else a.map (·.add 0)) = a := by
        split
        · rfl
        · cases a with
          | none => rfl
          | some a => simp [Addr.add]
      have h3 : (Instr.slice t (.slice a m c) none (some (.int k (h : Int))) none).run P w = .ok (.slice a h c) w := by
        simp [Instr.slice, run_underlying ht, h2, hz, hv]
      have h4 : (Instr.sliceAt t (.slice a m c) none (some (.int k (h : Int))) none).run P w = .ok (.slice a h c) w := by
        simp [Instr.sliceAt, run_underlying ht, h3]
      simp only [execOp, hx, hy, Option.map_none, Option.map_some, Sem.run_bind, h4, Result.andThen_ok]
      rfl) hk
theorem wpo_buildSlice {t len : Nat} {parts : Array (Nat × Operand)} {ps : List (Nat × Value)} {e : TypeId} {cs : Array Value} (hp : parts.toList.map (fun p => (p.1, ev f p.2)) = ps)
    (hb : ∀ w, (Instr.buildSlice t len ps.toArray).run P w = .ok (.slice (some ⟨w.heap.size, 0, none⟩) len len) (w.alloc (.cells cs e))) (hd : Nat.blt d n = true)
    (h : ∀ B w', NewB w w' B e cs → WpO P n ops K l (up f d (.slice (some ⟨B, 0, none⟩) len len)) w') : WpO P n ops K (⟨some d, .buildSlice t len parts, ty, pos, aft, none⟩ :: l) f w :=
  wpo_val rfl hd (by
    have e : (parts.map fun p => (p.1, ev f p.2)) = ps.toArray := by rw [← hp]; apply Array.ext'; simp
    show ((do pure (Next.value (← Instr.buildSlice t len (parts.map fun p => (p.1, ev f p.2)))) : Sem Next)).run P w = _
    rw [e, Sem.run_bind, hb]
    rfl) (h _ _ (newB_alloc w e cs))
end
theorem hN_gtl {a b : World} {B C : Nat} {T : TypeId} {cs : Array Value} (h : NewB a b B T cs) (hk : C < a.heap.size) : C < B := by rw [h.eq]; exact hk
/-! ### slices that grow -/
/-- Block B holds a list's rows, with room behind them. -/
def Own (w : World) (B : Nat) (T : TypeId) (sz cap n : Nat) (vs : List Value) : Prop := w.ownsRow 0 T sz (.slice (some ⟨B, 0, none⟩) n cap) n vs
section
variable {w w' : World} {B : Nat} {T : TypeId} {sz cap n : Nat} {vs : List Value}
theorem Own.lt (h : Own w B T sz cap n vs) : B < w.heap.size := (World.ownsRow.lt h B rfl).2
theorem Own.grown (h : Own w B T sz cap n vs) {r : Option Nat} (hg : w.grownBy w' r) (hne : some B ≠ r) : Own w' B T sz cap n vs := World.ownsRow.kept h hg (Or.inr hne)
theorem Own.gn {r : Nat} (h : Own w B T sz cap n vs) (hg : w.grownBy w' (some r)) (hne : B ≠ r := by omega) : Own w' B T sz cap n vs := h.grown hg (some_ne hne)
theorem Own.grown0 (h : Own w B T sz cap n vs) (hg : w.grownBy w' none) : Own w' B T sz cap n vs := h.grown hg (by simp)
theorem Own.sl {α : Type} {g : α → List Value} (hg : Wide g sz) {ys : List α} (h : Own w B T sz cap n (ys.flatMap g)) : SlAt w (some ⟨B, 0, none⟩) sz (ys.map g) := fun k x hk => by
  rw [List.getElem?_map] at hk
  cases hy : ys[k]? with
  | none => rw [hy] at hk; simp at hk
  | some y =>
    rw [hy] at hk
    obtain rfl : g y = x := by simpa using hk
    refine ⟨B, 0, rfl, fun j v hj => ?_⟩
    have := World.ownsRow.cells h rfl (k * sz + j) v (rows_get hg hy hj)
    have e : (⟨B, 0 + k * sz + j, none⟩ : Addr) = (⟨B, 0, none⟩ : Addr).add (k * sz + j) := by
      simp only [Addr.add]
      split
      · rename_i he; rw [show 0 + k * sz + j = 0 by omega]
      · rw [Nat.add_assoc]
    rw [e]
    exact this
theorem Own.range {α : Type} {g : α → List Value} (hg : Wide g sz) {ys : List α} (h : Own w B T sz cap n (ys.flatMap g)) {k : Nat} {x : α} (hk : ys[k]? = some x) : w.rangeAt B (k * sz) (g x) := by
  obtain ⟨b, o, ha, hr⟩ := Own.sl hg h k _ (map_get hk)
  simp only [Option.some.injEq, Addr.mk.injEq] at ha
  obtain ⟨rfl, rfl, _⟩ := ha
  rwa [Nat.zero_add] at hr
/-- A block that holds a list's rows and no more. -/
theorem Own.of {cs : Array Value} (h : Blk w B T cs) (hs : cs.size = n * sz) (hm : n ≤ 9223372036854775807) : Own w B T sz n n cs.toList := by
  refine ⟨by simpa using hs, Or.inr ⟨B, n, cs, rfl, Nat.zero_le _, h, Nat.le_refl _, ?_, hs, ?_⟩⟩
  · have : maxLen = 9223372036854775807 := by decide
    omega
  · rw [← hs, ← Array.length_toList, List.take_length]
theorem Own.rows {α : Type} {g : α → List Value} (hg : Wide g sz) {ys : List α} (h : Blk w B T (ys.flatMap g).toArray) (hm : ys.length ≤ 9223372036854775807) : Own w B T sz ys.length ys.length (ys.flatMap g) := by
  have := Own.of (n := ys.length) (sz := sz) h (by rw [List.size_toArray, rows_len hg]) hm
  simpa using this
end
theorem news_of {α : Type} {g : α → List Value} {sz : Nat} (hg : Wide g sz) (h0 : 0 < sz) {w : World} {a : Addr} {zs : List α} (hs : SlAt w (some a) sz (zs.map g)) : ∀ j u, (zs.flatMap g)[j]? = some u → w.cell? (a.add j) = some u := fun j u hj => by
  have hlt : j < zs.length * sz := by rw [← rows_len hg zs]; exact (List.getElem?_eq_some_iff.1 hj).1
  obtain ⟨q, hq2⟩ := get_lt ((Nat.div_lt_iff_lt_mul h0).2 hlt)
  obtain ⟨b, o, ha, hr⟩ := hs _ _ (map_get hq2)
  obtain rfl := Option.some.inj ha
  have hm2 : j % sz < sz := Nat.mod_lt _ h0
  have hd2 : (j / sz) * sz + j % sz = j := by rw [Nat.mul_comm]; exact Nat.div_add_mod j sz
  have h3 := rows_get hg hq2 (j := j % sz) (List.getElem?_eq_getElem (by rw [hg q]; exact hm2))
  rw [hd2, hj] at h3
  have h4 := hr (j % sz) u (by rw [List.getElem?_eq_getElem (by rw [hg q]; exact hm2)]; exact h3.symm)
  have e3 : (⟨b, o, none⟩ : Addr).add j = ⟨b, o + (j / sz) * sz + j % sz, none⟩ := by
    simp only [Addr.add]
    split
    · rename_i he; rw [show o + (j / sz) * sz + j % sz = o by omega]
    · rw [show o + j = o + (j / sz) * sz + j % sz by omega]
  rw [e3]
  exact h4
section
variable {P : Program} {n : Nat} {ops : Array Oper} {K : Fr → World → Prop} {l : List Oper} {f : Fr} {w : World} {ty : TypeId} {pos : String} {aft : Array Edge} {d : Nat}
theorem wpo_append {α : Type} {g : α → List Value} {t e sz bytes cap c : Nat} {z : Value} {x y : Operand} {B : Nat} {ys zs : List α} {a : Addr} (ht : mkTy P t = some (e, sz, bytes, some z)) (hz : z.cells.size = sz) (hg : Wide g sz) (h0 : 0 < sz) (h1c : ∀ q : α, ∀ u ∈ g q, u.oneCell' = true)
    (hx : ev f x = .slice (some ⟨B, 0, none⟩) ys.length cap) (hy : ev f y = .slice (some a) zs.length c) (ho : Own w B e sz cap ys.length (ys.flatMap g)) (hs : SlAt w (some a) sz (zs.map g))
    (hm : ys.length + zs.length ≤ 1099511627776) (hb : bytes ≤ 128) (hd : Nat.blt d n = true)
    (h : ∀ B' cap' w', Own w' B' e sz cap' (ys ++ zs).length ((ys ++ zs).flatMap g) → w.grownBy w' (some B) → (B' = B ∨ B' = w.heap.size) → WpO P n ops K l (up f d (.slice (some ⟨B', 0, none⟩) (ys ++ zs).length cap')) w') :
    WpO P n ops K (⟨some d, .call ⟨.builtin .append, #[x, y], #[t, t]⟩, ty, pos, aft, none⟩ :: l) f w := by
  unfold mkTy at ht
  split at ht
  · rename_i el hu
    cases hq : P.info? el with
    | none => rw [hq] at ht; cases ht
    | some i =>
      rw [hq] at ht
      simp only [Option.map_some, Option.some.injEq, Prod.mk.injEq] at ht
      obtain ⟨rfl, rfl, rfl, hzz⟩ := ht
      have hmx : maxLen = 9223372036854775807 := by decide
      have hnews := news_of hg h0 hs
      obtain ⟨v', w', hr, ho', hgr, hnil, hob⟩ := run_append_own_at (P := P) w 0 t ty el i z i.size i.bytes hu hq hzz rfl rfl hz h0 _ _ _ ho a zs.length c (zs.flatMap g) (rows_len hg zs) hnews
        (fun u hu => by obtain ⟨q, _, hq⟩ := List.mem_flatMap.1 hu; exact h1c q u hq) (by omega) (by
          have : (ys.length + zs.length) * i.bytes ≤ 1099511627776 * 128 := Nat.mul_le_mul hm hb
          omega) (Nat.zero_le _)
      have hv' : v' ≠ .slice none 0 0 := fun e => by
        have := (hnil.1 e).1
        cases this
      rcases ho'.2 with ⟨hn, _⟩ | ⟨B', cap', cur, rfl, hrest⟩
      · exact absurd hn hv'
      · have e1 : (ys ++ zs).length = ys.length + zs.length := List.length_append
        have e2 : (ys ++ zs).flatMap g = ys.flatMap g ++ zs.flatMap g := List.flatMap_append
        refine wpo_val rfl hd (v := .slice (some ⟨B', 0, none⟩) (ys ++ zs).length cap') (w' := w') (by simp [execOp, resolve, invoke, builtin, hx, hy, hr, e1]) (h B' cap' w' ?_ hgr ?_)
        · unfold Own; rw [e1, e2]; exact ho'
        · rcases hob with h' | h'
          · exact Or.inl (Option.some.inj h')
          · exact Or.inr (Option.some.inj h')
  · cases ht
end
/-- A slice that is nobody else's: nil, or at the front of a block at lo or above. -/
def OwnN (lo : Nat) (w : World) (a : Option Addr) (T : TypeId) (sz cap n : Nat) (vs : List Value) : Prop := w.ownsRow lo T sz (.slice a n cap) n vs
section
variable {lo : Nat} {w w' : World} {a : Option Addr} {T : TypeId} {sz cap n : Nat} {vs : List Value}
theorem OwnN.nil : OwnN lo w none T sz 0 0 [] := ⟨by simp, Or.inl ⟨rfl, rfl⟩⟩
theorem OwnN.isnil (h : OwnN lo w none T sz cap n vs) : cap = 0 ∧ n = 0 ∧ vs = [] := by
  rcases h.2 with ⟨h1, h2⟩ | ⟨g, cap', cur, h1, _⟩
  · simp only [Value.slice.injEq] at h1
    refine ⟨h1.2.2, h2, ?_⟩
    have := h.1
    rw [h2, Nat.zero_mul] at this
    exact List.eq_nil_of_length_eq_zero this
  · simp at h1
theorem OwnN.own {B : Nat} (h : OwnN lo w (some ⟨B, 0, none⟩) T sz cap n vs) : Own w B T sz cap n vs ∧ lo ≤ B := by
  rcases h.2 with ⟨h1, _⟩ | ⟨g, cap', cur, h1, h2, h3⟩
  · simp at h1
  · simp only [Value.slice.injEq, Option.some.injEq, Addr.mk.injEq, and_true, true_and] at h1
    obtain ⟨rfl, rfl⟩ := h1
    exact ⟨⟨h.1, Or.inr ⟨_, _, cur, rfl, Nat.zero_le _, h3⟩⟩, h2⟩
theorem OwnN.of {B : Nat} (h : Own w B T sz cap n vs) (hl : lo ≤ B) : OwnN lo w (some ⟨B, 0, none⟩) T sz cap n vs := by
  rcases h.2 with ⟨h1, _⟩ | ⟨g, cap', cur, h1, h2, h3⟩
  · simp at h1
  · simp only [Value.slice.injEq, Option.some.injEq, Addr.mk.injEq, and_true, true_and] at h1
    obtain ⟨rfl, rfl⟩ := h1
    exact ⟨h.1, Or.inr ⟨_, _, cur, rfl, hl, h3⟩⟩
theorem OwnN.form (h : OwnN lo w a T sz cap n vs) : (a = .none ∧ n = 0 ∧ cap = 0 ∧ vs = []) ∨ ∃ B, a = some ⟨B, 0, .none⟩ ∧ lo ≤ B ∧ B < w.heap.size ∧ Own w B T sz cap n vs := by
  rcases h.2 with ⟨h1, h2⟩ | ⟨g, cap', cur, h1, h2, h3⟩
  · simp only [Value.slice.injEq] at h1
    obtain ⟨rfl, h4, h5⟩ := h1
    exact Or.inl ⟨rfl, h2, h5, (OwnN.isnil h).2.2⟩
  · simp only [Value.slice.injEq, true_and] at h1
    obtain ⟨rfl, rfl⟩ := h1
    have ho := OwnN.own h
    exact Or.inr ⟨g, rfl, h2, ho.1.lt, ho.1⟩
theorem OwnN.some_ (h : OwnN lo w a T sz cap n vs) (hn : 0 < n) : ∃ B, a = some ⟨B, 0, .none⟩ ∧ lo ≤ B ∧ Own w B T sz cap n vs := by
  rcases h.form with ⟨_, h2, _⟩ | ⟨B, h1, h2, _, h3⟩
  · omega
  · exact ⟨B, h1, h2, h3⟩
theorem OwnN.grown {r : Option Nat} (h : OwnN lo w a T sz cap n vs) (hg : w.grownBy w' r) (hne : ∀ B, a = some ⟨B, 0, .none⟩ → some B ≠ r) : OwnN lo w' a T sz cap n vs := by
  rcases h.form with ⟨rfl, rfl, rfl, rfl⟩ | ⟨B, rfl, h2, _, h3⟩
  · exact OwnN.nil
  · exact OwnN.of (h3.grown hg (hne B rfl)) h2
theorem OwnN.grown0 (h : OwnN lo w a T sz cap n vs) (hg : w.grownBy w' .none) : OwnN lo w' a T sz cap n vs := h.grown hg (by simp)
theorem OwnN.grown_lt {b : Nat} (h : OwnN lo w a T sz cap n vs) (hg : w.grownBy w' (some b)) (hb : b < lo) : OwnN lo w' a T sz cap n vs := by
  rcases h.form with ⟨rfl, rfl, rfl, rfl⟩ | ⟨B, rfl, h2, _, h3⟩
  · exact OwnN.nil
  · exact OwnN.of (h3.grown hg (some_ne (by omega))) h2
theorem OwnN.mono {lo' : Nat} (h : OwnN lo w a T sz cap n vs) (hl : lo' ≤ lo) : OwnN lo' w a T sz cap n vs := by
  rcases h.form with ⟨rfl, rfl, rfl, rfl⟩ | ⟨B, rfl, h2, _, h3⟩
  · exact OwnN.nil
  · exact OwnN.of h3 (Nat.le_trans hl h2)
theorem OwnN.sl {α : Type} {g : α → List Value} (hg : Wide g sz) (h0 : 0 < sz) {ys : List α} (h : OwnN lo w a T sz cap n (ys.flatMap g)) : SlAt w a sz (ys.map g) := by
  rcases h.form with ⟨rfl, rfl, rfl, hn⟩ | ⟨B, rfl, h2, _, h3⟩
  · have hl := rows_len hg ys
    rw [hn] at hl
    have : ys.length = 0 := by
      rcases Nat.eq_zero_or_pos ys.length with h5 | h5
      · exact h5
      · have h6 := Nat.mul_pos h5 h0
        simp at hl
        omega
    rw [List.eq_nil_of_length_eq_zero this]
    exact fun k x hk => by simp at hk
  · exact Own.sl hg h3
theorem OwnN.cap0 (h : OwnN lo w a T sz cap n vs) (ha : a = .none) : cap = 0 := by
  subst ha
  exact h.isnil.1
end
section
variable {P : Program} {n : Nat} {ops : Array Oper} {K : Fr → World → Prop} {l : List Oper} {f : Fr} {w : World} {ty : TypeId} {pos : String} {aft : Array Edge} {d : Nat}
/-- Any slice of rows is put onto one that is nobody else's. -/
theorem wpo_appendN {α : Type} {g : α → List Value} {lo t e sz bytes cap c : Nat} {z : Value} {x y : Operand} {ax ay : Option Addr} {ys zs : List α} (ht : mkTy P t = some (e, sz, bytes, some z)) (hz : z.cells.size = sz) (hg : Wide g sz) (h0 : 0 < sz) (h1c : ∀ q : α, ∀ u ∈ g q, u.oneCell' = true)
    (hx : ev f x = .slice ax ys.length cap) (hy : ev f y = .slice ay zs.length c) (ho : OwnN lo w ax e sz cap ys.length (ys.flatMap g)) (hs : SlAt w ay sz (zs.map g)) (hc : ay = none → c = 0)
    (hm : ys.length + zs.length ≤ 1099511627776) (hb : bytes ≤ 128) (hlo : lo ≤ w.heap.size) (hd : Nat.blt d n = true)
    (h : ∀ a' cap' w', OwnN lo w' a' e sz cap' (ys ++ zs).length ((ys ++ zs).flatMap g) → w.grownBy w' (ax.map (·.block)) → (a'.map (·.block) = ax.map (·.block) ∨ a'.map (·.block) = some w.heap.size) → WpO P n ops K l (up f d (.slice a' (ys ++ zs).length cap')) w') :
    WpO P n ops K (⟨some d, .call ⟨.builtin .append, #[x, y], #[t, t]⟩, ty, pos, aft, none⟩ :: l) f w := by
  unfold mkTy at ht
  split at ht
  · rename_i el hu
    cases hq : P.info? el with
    | none => rw [hq] at ht; cases ht
    | some i =>
      rw [hq] at ht
      simp only [Option.map_some, Option.some.injEq, Prod.mk.injEq] at ht
      obtain ⟨rfl, rfl, rfl, hzz⟩ := ht
      have hmx : maxLen = 9223372036854775807 := by decide
      have e1 : (ys ++ zs).length = ys.length + zs.length := List.length_append
      have e2 : (ys ++ zs).flatMap g = ys.flatMap g ++ zs.flatMap g := List.flatMap_append
      have hob0 : ∀ (aa : Option Addr) m c, (Value.slice aa m c).ownBlock = aa.map (·.block) := fun aa m c => by cases aa <;> rfl
      cases ay with
      | none =>
        have hzs : zs = [] := by
          cases zs with
          | nil => rfl
          | cons q zs =>
            obtain ⟨b, o, ha, _⟩ := hs 0 (g q) rfl
            cases ha
        subst hzs
        have hr := run_append_owned_none (P := P) w lo t ty el i i.size hu hq _ _ _ ho
        refine wpo_val rfl hd (v := .slice ax ys.length cap) (w' := w) (by simp [execOp, resolve, invoke, builtin, hx, hy, hc rfl, hr]) ?_
        have h9 := h ax cap w
        rw [List.append_nil] at h9
        exact h9 ho (World.grownBy.refl _ _) (Or.inl rfl)
      | some a =>
        obtain ⟨v', w', hr, ho', hgr, hnil, hob⟩ := run_append_own_at (P := P) w lo t ty el i z i.size i.bytes hu hq hzz rfl rfl hz h0 _ _ _ ho a zs.length c (zs.flatMap g) (rows_len hg zs) (news_of hg h0 hs)
          (fun u hu => by obtain ⟨q, _, hq⟩ := List.mem_flatMap.1 hu; exact h1c q u hq) (by omega) (by
            have : (ys.length + zs.length) * i.bytes ≤ 1099511627776 * 128 := Nat.mul_le_mul hm hb
            omega) hlo
        have hshape : ∃ a' cap', v' = .slice a' (ys ++ zs).length cap' := by
          rcases ho'.2 with ⟨h1, h2⟩ | ⟨g', cp, cu, h1, _⟩
          · exact ⟨none, 0, by rw [h1, e1, h2]⟩
          · exact ⟨_, cp, by rw [h1, e1]⟩
        obtain ⟨a', cap', rfl⟩ := hshape
        refine wpo_val rfl hd (v := .slice a' (ys ++ zs).length cap') (w' := w') (by simp [execOp, resolve, invoke, builtin, hx, hy, hr]) (h a' cap' w' ?_ ?_ ?_)
        · unfold OwnN; rw [e2]; rw [← e1] at ho'; exact ho'
        · rw [hob0] at hgr; exact hgr
        · rw [hob0, hob0] at hob; exact hob
  · cases ht
end
/-! ### stores into slices that are nobody else's -/
theorem Own.blk {w : World} {B : Nat} {T : TypeId} {sz cap n : Nat} {vs : List Value} (h : Own w B T sz cap n vs) : vs.length = n * sz ∧ ∃ cur : Array Value, Blk w B T cur ∧ n ≤ cap ∧ cap ≤ maxLen ∧ cur.size = cap * sz ∧ cur.toList.take (n * sz) = vs := by
  refine ⟨h.1, ?_⟩
  rcases h.2 with ⟨h1, _⟩ | ⟨g, cap', cur, h1, _, h3, h4⟩
  · simp at h1
  · simp only [Value.slice.injEq, Option.some.injEq, Addr.mk.injEq, and_true, true_and] at h1
    obtain ⟨rfl, rfl⟩ := h1
    exact ⟨cur, h3, h4⟩
theorem Own.ofBlk {w : World} {B : Nat} {T : TypeId} {sz cap n : Nat} {vs : List Value} {cur : Array Value} (hl : vs.length = n * sz) (hb : Blk w B T cur) (h1 : n ≤ cap) (h2 : cap ≤ maxLen) (h3 : cur.size = cap * sz) (h4 : cur.toList.take (n * sz) = vs) : Own w B T sz cap n vs :=
  ⟨hl, Or.inr ⟨B, cap, cur, rfl, Nat.zero_le _, hb, h1, h2, h3, h4⟩⟩
theorem Own.set2 {α : Type} {g : α → List Value} {w : World} {B : Nat} {T : TypeId} {sz cap k : Nat} {L : List α} {x y : α} (h : Own w B T sz cap ((L.set k x).set k y).length (((L.set k x).set k y).flatMap g)) : Own w B T sz cap (L.set k y).length ((L.set k y).flatMap g) := by
  rwa [List.set_set] at h
theorem take_put {cur vs : List Value} {o m : Nat} {us : List Value} (h : cur.take m = vs) (hm : m ≤ cur.length) (ho : o + us.length ≤ m) : (cur.take o ++ us ++ cur.drop (o + us.length)).take m = vs.take o ++ us ++ vs.drop (o + us.length) := by
  subst h
  have e1 : (cur.take o).length = o := by rw [List.length_take]; omega
  have e2 : (cur.take m).take o = cur.take o := by rw [List.take_take, Nat.min_eq_left (by omega)]
  have e3 : (cur.take m).drop (o + us.length) = (cur.drop (o + us.length)).take (m - (o + us.length)) := List.drop_take ..
  rw [e2, e3, List.take_append, List.take_of_length_le (l := cur.take o ++ us) (by rw [List.length_append, e1]; exact ho), List.length_append, e1]
section
variable {P : Program} {n : Nat} {ops : Array Oper} {K : Fr → World → Prop} {l : List Oper} {f : Fr} {w : World} {ty : TypeId} {pos : String} {aft : Array Edge} {d : Nat}
theorem wpo_store1O {α : Type} {g : α → List Value} {t b o sz cap k j : Nat} {T : TypeId} {x y : Operand} {v : Value} {ys : List α} {z z' : α} (ht : oneTy P t = true) (hx : ev f x = .pointer (some ⟨b, o, none⟩)) (hy : ev f y = v) (h1 : v.oneCell' = true)
    (hg : Wide g sz) (ho : Own w b T sz cap ys.length (ys.flatMap g)) (hk : ys[k]? = some z) (hj : j < sz) (e : o = k * sz + j) (hv : (g z).set j v = g z')
    (h : ∀ w', Own w' b T sz cap (ys.set k z').length ((ys.set k z').flatMap g) → w.grownBy w' (some b) → WpO P n ops K l f w') : WpO P n ops K (⟨none, .store t x y, ty, pos, aft, none⟩ :: l) f w := by
  obtain ⟨hl, cur, hb, h2, h3, h4, h5⟩ := ho.blk
  have hlt : k * sz + j < ys.length * sz := by
    have := rows_lt1 hg hk hj
    rwa [List.size_toArray, rows_len hg] at this
  have hcap : ys.length * sz ≤ cap * sz := Nat.mul_le_mul_right _ h2
  subst e
  have hin : k * sz + j < cur.size := by rw [h4]; exact Nat.lt_of_lt_of_le hlt hcap
  refine wpo_unit (w' := w.setRow b (cur.setIfInBounds (k * sz + j) v)) rfl rfl (by simp [execOp, hx, hy, run_store1 ht h1 hb hin]) (h _ (Own.ofBlk ?_ (setB_setRow hb _).blk (by rw [List.length_set]; exact h2) h3 (by rw [Array.size_setIfInBounds]; exact h4) ?_) (setB_setRow hb _).grw)
  · rw [rows_len hg]
  · have hset := congrArg Array.toList (rows_set1 hg hk z' hj hv)
    rw [List.length_set, Array.toList_setIfInBounds, List.take_set, h5]
    simpa using hset
theorem wpo_storenO {α : Type} {g : α → List Value} {t b o sz cap k : Nat} {T : TypeId} {x y : Operand} {ys : List α} {z' : α} (ht : rowTy P t = some sz) (hx : ev f x = .pointer (some ⟨b, o, none⟩)) (hy : ev f y = .agg (g z').toArray) (h1 : ∀ v ∈ g z', v.oneCell' = true)
    (hg : Wide g sz) (ho : Own w b T sz cap ys.length (ys.flatMap g)) (hk : k < ys.length) (e : o = k * sz)
    (h : ∀ w', Own w' b T sz cap (ys.set k z').length ((ys.set k z').flatMap g) → w.grownBy w' (some b) → WpO P n ops K l f w') : WpO P n ops K (⟨none, .store t x y, ty, pos, aft, none⟩ :: l) f w := by
  obtain ⟨hl, cur, hb, h2, h3, h4, h5⟩ := ho.blk
  have hlt : k * sz + sz ≤ ys.length * sz := by
    have := rows_le hg hk
    rwa [List.size_toArray, rows_len hg] at this
  have hcap : ys.length * sz ≤ cap * sz := Nat.mul_le_mul_right _ h2
  subst e
  have hin : k * sz + sz ≤ cur.size := by rw [h4]; exact Nat.le_trans hlt hcap
  have hsz : cur.toList.length = cap * sz := by rw [Array.length_toList]; exact h4
  have hz : (g z').length = sz := hg z'
  refine wpo_unit (w' := w.setRow b (cur.toList.take (k * sz) ++ g z' ++ cur.toList.drop (k * sz + sz)).toArray) rfl rfl (by simp only [execOp, hx, hy, Sem.run_bind, run_storen ht (hg z') h1 hb hin, Result.andThen_ok]; rfl) (h _ (Own.ofBlk ?_ (setB_setRow hb _).blk (by rw [List.length_set]; exact h2) h3 ?_ ?_) (setB_setRow hb _).grw)
  · rw [rows_len hg]
  · rw [List.size_toArray, List.length_append, List.length_append, List.length_take, List.length_drop, hz, hsz, Nat.min_eq_left (by omega)]
    omega
  · have hset := congrArg Array.toList (rows_setA hg hk z')
    have hq := take_put (cur := cur.toList) (us := g z') (o := k * sz) h5 (by rw [hsz]; exact hcap) (by rw [hz]; exact hlt)
    rw [hz] at hq
    rw [List.length_set, hq]
    simpa using hset
end
/-! ### things and tables, to be read -/
theorem wide_cl : Wide Cl.cells 5 := fun _ => rfl
theorem onec_cl (q : Cl) : ∀ u ∈ Cl.cells q, u.oneCell' = true := by simp [Cl.cells, Value.oneCell']
theorem SlAt.nil {w : World} {a : Option Addr} {sz : Nat} : SlAt w a sz [] := fun k x hk => by simp at hk
def ThAt (w : World) (m : MTh) : Prop := SlAt w m.sa 5 (m.t.slots.map Rt.cells) ∧ SlAt w m.qa 1 (m.t.queue.map icell) ∧ (m.sa = none → m.sc = 0) ∧ (m.qa = none → m.qc = 0)
theorem ThAt.low {w w' : World} {m : MTh} (h : ThAt w m) (hg : w.grownBy w' none) : ThAt w' m := ⟨h.1.low hg, h.2.1.low hg, h.2.2⟩
def TabAt (w : World) (a : Option Addr) (ts : List MTh) : Prop := SlAt w a 8 (ts.map MTh.cells) ∧ ∀ m ∈ ts, ThAt w m
theorem TabAt.low {w w' : World} {a : Option Addr} {ts : List MTh} (h : TabAt w a ts) (hg : w.grownBy w' none) : TabAt w' a ts := ⟨h.1.low hg, fun m hm => (h.2 m hm).low hg⟩
theorem TabAt.th {w : World} {a : Option Addr} {ts : List MTh} (h : TabAt w a ts) {k : Nat} {m : MTh} (hk : ts[k]? = some m) : ThAt w m := h.2 m (List.mem_of_getElem? hk)
/-! ### arrays of rows -/
def arrTy (P : Program) (t : TypeId) : Option (Nat × TypeId × Nat) :=
  match P.underlying t with
  | some (.array m e) => (P.info? e).map fun i => (m, e, i.size)
  | _ => none
theorem arrTy_spec {P : Program} {t e m sz : Nat} (h : arrTy P t = some (m, e, sz)) : P.underlying t = some (.array m e) ∧ ∃ i, P.info? e = some i ∧ i.size = sz := by
  unfold arrTy at h
  split at h
  · rename_i m' e' hu
    cases hq : P.info? e' with
    | none => rw [hq] at h; cases h
    | some i =>
      rw [hq] at h
      simp only [Option.map_some, Option.some.injEq, Prod.mk.injEq] at h
      obtain ⟨rfl, rfl, rfl⟩ := h
      exact ⟨hu, i, hq, rfl⟩
  · cases h
theorem rows_row {α : Type} {g : α → List Value} {sz : Nat} (hg : Wide g sz) {ys : List α} {k : Nat} {z : α} (hk : ys[k]? = some z) : (ys.flatMap g).toArray.extract (k * sz) (k * sz + sz) = (g z).toArray := by
  apply Array.ext'
  rw [Array.toList_extract, List.extract_eq_take_drop, List.toList_toArray, List.toList_toArray, rows_drop hg, drop_split hk, List.flatMap_cons, Nat.add_sub_cancel_left, List.take_append, hg z, List.take_of_length_le (by rw [hg z]; exact Nat.le_refl _)]
  simp
theorem SlAt.all {α : Type} {g : α → List Value} {w : World} {a : Option Addr} {sz : Nat} (hg : Wide g sz) (h0 : 0 < sz) {ys : List α} (h : SlAt w a sz (ys.map g)) (hne : 0 < ys.length) : ∃ b q, a = some ⟨b, q, none⟩ ∧ w.rangeAt b q (ys.flatMap g) := by
  obtain ⟨y, hy⟩ := get_lt hne
  obtain ⟨b, q, ha, _⟩ := h _ _ (map_get hy)
  refine ⟨b, q, ha, fun j v hj => ?_⟩
  have hlt : j < ys.length * sz := by rw [← rows_len hg ys]; exact (List.getElem?_eq_some_iff.1 hj).1
  obtain ⟨z, hz⟩ := get_lt ((Nat.div_lt_iff_lt_mul h0).2 hlt)
  obtain ⟨b', q', ha', hr⟩ := h _ _ (map_get hz)
  rw [ha] at ha'
  simp only [Option.some.injEq, Addr.mk.injEq] at ha'
  obtain ⟨rfl, rfl, _⟩ := ha'
  have hm : j % sz < sz := Nat.mod_lt _ h0
  have hd : (j / sz) * sz + j % sz = j := by rw [Nat.mul_comm]; exact Nat.div_add_mod j sz
  have h3 := rows_get hg hz (j := j % sz) (List.getElem?_eq_getElem (by rw [hg z]; exact hm))
  rw [hd, hj] at h3
  have h4 := hr (j % sz) v (by rw [List.getElem?_eq_getElem (by rw [hg z]; exact hm)]; exact h3.symm)
  rwa [Nat.add_assoc, hd] at h4
section
variable {P : Program} {n : Nat} {ops : Array Oper} {K : Fr → World → Prop} {l : List Oper} {f : Fr} {w : World} {ty : TypeId} {pos : String} {aft : Array Edge} {d : Nat}
theorem wpo_s2a {t e m sz len cap b q : Nat} {a : Option Addr} {x : Operand} (ht : arrTy P t = some (m, e, sz)) (hx : ev f x = .slice a len cap) (ha : a = some ⟨b, q, none⟩) (hm : m ≤ len) (hd : Nat.blt d n = true)
    (h : WpO P n ops K l (up f d (.pointer (some ⟨b, q, none⟩))) w) : WpO P n ops K (⟨some d, .sliceToArrayPointer t x, ty, pos, aft, none⟩ :: l) f w := by
  have hu := (arrTy_spec ht).1
  refine wpo_val rfl hd ?_ h
  simp only [execOp, hx, Instr.arrayAt, Sem.run_bind, run_underlying hu, Result.andThen_ok, if_neg (Nat.not_lt.2 hm), ha]
  rfl
/-- The slice of a whole array. -/
theorem wpo_sliceArr {t e m sz b o : Nat} {x : Operand} (ht : arrTy P t = some (m, e, sz)) (hx : ev f x = .pointer (some ⟨b, o, none⟩)) (hm : 0 < m) (hd : Nat.blt d n = true)
    (h : WpO P n ops K l (up f d (.slice (some ⟨b, o, none⟩) m m)) w) : WpO P n ops K (⟨some d, .slice t x none none none, ty, pos, aft, none⟩ :: l) f w := by
  obtain ⟨hu, i, hi, hs⟩ := arrTy_spec ht
  have hz : (sizeOf e).run P w = .ok i.size w := by simp [sizeOf, typeInfo, hi]
  have hb : (Instr.sliceBounds false m m none none none).run P w = .ok (0, m, m) w := rfl
  refine wpo_val rfl hd ?_ h
  have hne : ¬ m = 0 := by omega
  simp [execOp, hx, Instr.sliceAt, Instr.sureAddr, run_underlying hu, hb, hz, Addr.add, hne]
theorem wpo_indexArr {α : Type} {g : α → List Value} {ys : List α} {z : α} {t e m sz : Nat} {k : IntKind} {i : Int} {x y : Operand} (ht : arrTy P t = some (m, e, sz)) (hr : rowTy P e = some sz) (hg : Wide g sz) (hx : ev f x = .agg (ys.flatMap g).toArray) (hy : ev f y = .int k i)
    (h0 : 0 ≤ i) (h1 : i < m) (hk : ys[i.toNat]? = some z) (hd : Nat.blt d n = true) (h : WpO P n ops K l (up f d (.agg (g z).toArray)) w) : WpO P n ops K (⟨some d, .index t x y, ty, pos, aft, none⟩ :: l) f w := by
  obtain ⟨hu, inf, hi, hs⟩ := arrTy_spec ht
  obtain ⟨dd, hue, hrow, _⟩ := rowTy_spec hr
  have hz : (sizeOf e).run P w = .ok sz w := by simp [sizeOf, typeInfo, hi, hs]
  have hagg : (isAgg e).run P w = .ok true w := by
    unfold isAgg
    cases dd <;> first | (cases hrow; done) | simp [run_underlying hue]
  have hpart : (part e (ys.flatMap g).toArray (i.toNat * sz)).run P w = .ok (.agg (g z).toArray) w := by
    simp only [part, Sem.run_bind, hagg, Result.andThen_ok, if_true, hz]
    rw [rows_row hg hk]
    rfl
  refine wpo_val rfl hd ?_ h
  simp [execOp, hx, hy, Instr.index, asIntOf, run_underlying hu, hz, h0, h1, hpart]
end
end Go.Dw
