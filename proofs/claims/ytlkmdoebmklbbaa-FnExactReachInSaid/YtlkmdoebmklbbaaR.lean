/-
  Blocks that hold the rows of a list; slices that are made.
-/
import Derived.Test.YtlkmdoebmklbbaaM
import Derived.Test.YtlkmdoebmklbbaaD
import Derived.Laws.MakeOwn
namespace Go.Dw
open Go.RowKit

/-- Each element is so many cells. -/
def Wide {α : Type} (g : α → List Value) (sz : Nat) : Prop := ∀ a, (g a).length = sz
theorem wide_rt : Wide Rt.cells 5 := fun _ => rfl
theorem wide_int : Wide icell 1 := fun _ => rfl
theorem wide_mth : Wide MTh.cells 8 := fun _ => rfl
section
variable {α : Type} {g : α → List Value} {sz : Nat}
theorem rows_len (hg : Wide g sz) : ∀ ys : List α, (ys.flatMap g).length = ys.length * sz
  | [] => by simp
  | y :: ys => by
    simp only [List.flatMap_cons, List.length_append, rows_len hg ys, List.length_cons, hg y, Nat.add_mul]
    omega
theorem rows_drop (hg : Wide g sz) : ∀ (ys : List α) (k : Nat), (ys.flatMap g).drop (k * sz) = (ys.drop k).flatMap g
  | ys, 0 => by simp
  | [], k + 1 => by simp
  | y :: ys, k + 1 => by
    rw [List.flatMap_cons, List.drop_append, List.drop_eq_nil_of_le (by rw [hg y, Nat.add_mul]; omega), hg y, List.nil_append, show (k + 1) * sz - sz = k * sz by rw [Nat.add_mul]; omega, rows_drop hg ys k]
    rfl
theorem rows_take (hg : Wide g sz) : ∀ (ys : List α) (k : Nat), (ys.flatMap g).take (k * sz) = (ys.take k).flatMap g
  | ys, 0 => by simp
  | [], k + 1 => by simp
  | y :: ys, k + 1 => by
    rw [List.flatMap_cons, List.take_append, List.take_of_length_le (by rw [hg y, Nat.add_mul]; omega), hg y, show (k + 1) * sz - sz = k * sz by rw [Nat.add_mul]; omega, rows_take hg ys k]
    rfl
theorem drop_split {ys : List α} {k : Nat} {x : α} (hk : ys[k]? = some x) : ys.drop k = x :: ys.drop (k + 1) := by
  obtain ⟨hl, rfl⟩ := List.getElem?_eq_some_iff.1 hk
  exact List.drop_eq_getElem_cons hl
theorem rows_get (hg : Wide g sz) {ys : List α} {k : Nat} {x : α} (hk : ys[k]? = some x) {j : Nat} {v : Value} (hj : (g x)[j]? = some v) : (ys.flatMap g)[k * sz + j]? = some v := by
  have h := congrArg (fun l : List Value => l[j]?) (rows_drop hg ys k)
  simp only [List.getElem?_drop] at h
  rw [h, drop_split hk, List.flatMap_cons, List.getElem?_append_left (List.getElem?_eq_some_iff.1 hj).1, hj]
theorem rows_setA (hg : Wide g sz) {ys : List α} {k : Nat} (hk : k < ys.length) (x : α) :
    ((ys.flatMap g).toArray.toList.take (k * sz) ++ g x ++ (ys.flatMap g).toArray.toList.drop (k * sz + sz)).toArray = ((ys.set k x).flatMap g).toArray := by
  have e : k * sz + sz = (k + 1) * sz := by rw [Nat.add_mul]; omega
  rw [e, rows_take hg, rows_drop hg, List.set_eq_take_append_cons_drop, if_pos hk]
  simp [List.flatMap_append]
theorem set_row (x : List Value) (l : List Value) (j : Nat) (v : Value) (hj : j < x.length) : (x ++ l).set j v = x.set j v ++ l := by
  rw [List.set_append_left _ _ hj]
theorem rows_set1 (hg : Wide g sz) {ys : List α} {k : Nat} {x : α} (hk : ys[k]? = some x) (x' : α) {j : Nat} {v : Value} (hj : j < sz) (hv : (g x).set j v = g x') :
    (ys.flatMap g).toArray.setIfInBounds (k * sz + j) v = ((ys.set k x').flatMap g).toArray := by
  have hl := (List.getElem?_eq_some_iff.1 hk).1
  have e : (ys.flatMap g) = (ys.take k).flatMap g ++ (g x ++ (ys.drop (k + 1)).flatMap g) := by
    conv => lhs; rw [← List.take_append_drop k ys, List.flatMap_append, drop_split hk, List.flatMap_cons]
  have hlen : ((ys.take k).flatMap g).length = k * sz := by rw [rows_len hg, List.length_take, Nat.min_eq_left (Nat.le_of_lt hl)]
  rw [List.setIfInBounds_toArray]
  refine congrArg List.toArray ?_
  rw [e, List.set_append_right _ _ (by omega), hlen, show k * sz + j - k * sz = j by omega, set_row _ _ _ _ (by rw [hg]; exact hj), hv, List.set_eq_take_append_cons_drop, if_pos hl, List.flatMap_append, List.flatMap_cons]
theorem rows_le (hg : Wide g sz) {ys : List α} {k : Nat} (hk : k < ys.length) : k * sz + sz ≤ (ys.flatMap g).toArray.size := by
  rw [List.size_toArray, rows_len hg]
  have : (k + 1) * sz ≤ ys.length * sz := Nat.mul_le_mul_right _ hk
  rwa [Nat.add_mul, Nat.one_mul] at this
theorem rows_lt (hg : Wide g sz) {ys : List α} {k : Nat} (hk : k < ys.length) {j : Nat} (hj : j < sz) : k * sz + j < (ys.flatMap g).toArray.size := by
  have := rows_le hg hk
  omega
theorem rows_range (hg : Wide g sz) {ys : List α} {w : World} {B : Nat} {T : TypeId} (h : Blk w B T (ys.flatMap g).toArray) {k : Nat} {x : α} (hk : ys[k]? = some x) : w.rangeAt B (k * sz) (g x) :=
  h.range fun j v hj => by
    rw [List.getElem?_toArray]
    exact rows_get hg hk hj
theorem rows_sl (hg : Wide g sz) {ys : List α} {w : World} {B : Nat} {T : TypeId} (h : Blk w B T (ys.flatMap g).toArray) : SlAt w (some ⟨B, 0, none⟩) sz (ys.map g) := fun k x hk => by
  rw [List.getElem?_map] at hk
  cases hy : ys[k]? with
  | none => rw [hy] at hk; simp at hk
  | some y =>
    rw [hy] at hk
    obtain rfl : g y = x := by simpa using hk
    exact ⟨B, 0, rfl, by rw [Nat.zero_add]; exact rows_range hg h hy⟩
/-- A list that is filled from the front. -/
def fill (xs : List α) (z : α) (k : Nat) : List α := xs.take k ++ List.replicate (xs.length - k) z
theorem fill_zero (xs : List α) (z : α) : fill xs z 0 = List.replicate xs.length z := by simp [fill]
theorem fill_len {xs : List α} {z : α} {k : Nat} (hk : k ≤ xs.length) : (fill xs z k).length = xs.length := by
  simp [fill]
  omega
theorem fill_lt {xs : List α} {z : α} {k : Nat} {x : α} (hx : xs[k]? = some x) : k < (fill xs z k).length := by
  have := (List.getElem?_eq_some_iff.1 hx).1
  rw [fill_len (by omega)]
  exact this
theorem fill_set {xs : List α} {z : α} {k : Nat} {x : α} (hx : xs[k]? = some x) : (fill xs z k).set k x = fill xs z (k + 1) := by
  have hl := (List.getElem?_eq_some_iff.1 hx).1
  unfold fill
  rw [List.set_append_right _ _ (by simp; omega), List.length_take, Nat.min_eq_left (by omega), Nat.sub_self, List.take_add_one, hx]
  rw [show xs.length - k = (xs.length - (k + 1)) + 1 by omega, List.replicate_succ]
  simp
theorem fill_all {xs : List α} {z : α} {k : Nat} (hk : xs.length ≤ k) : fill xs z k = xs := by
  unfold fill
  rw [List.take_of_length_le hk, Nat.sub_eq_zero_of_le hk]
  simp
theorem made_rows {z : α} (hg : Wide g sz) (h0 : 0 < sz) : ∀ c : Nat, madeCells (g z).toArray (c * sz) = ((List.replicate c z).flatMap g).toArray := fun c => by
  apply Array.ext'
  refine List.ext_getElem? fun i => ?_
  have hl : ((List.replicate c z).flatMap g).length = c * sz := by rw [rows_len hg, List.length_replicate]
  by_cases hi : i < c * sz
  · have hd : i = (i / sz) * sz + i % sz := by rw [Nat.mul_comm]; exact (Nat.div_add_mod i sz).symm
    have hm : i % sz < sz := Nat.mod_lt _ h0
    have hq : i / sz < c := (Nat.div_lt_iff_lt_mul h0).2 hi
    have h1 : (List.replicate c z)[i / sz]? = some z := by simp [hq]
    have h2 : (g z)[i % sz]? = some ((g z)[i % sz]'(by rw [hg z]; exact hm)) := List.getElem?_eq_getElem (by rw [hg z]; exact hm)
    have h3 := rows_get hg h1 h2
    rw [← hd] at h3
    simp only [List.toList_toArray]
    rw [h3]
    simp only [madeCells, Array.toList_map, Array.toList_range, List.getElem?_map, List.getElem?_range hi, Option.map_some, List.size_toArray, hg z]
    rw [getElem!_def, List.getElem?_toArray, h2]
  · rw [List.getElem?_eq_none (by simp [madeCells]; omega), List.getElem?_eq_none (by simp only [List.toList_toArray]; omega)]
end
def mkTy (P : Program) (t : TypeId) : Option (TypeId × Nat × Nat × Option Value) :=
  match P.underlying t with
  | some (.slice e) => (P.info? e).map fun i => (e, i.size, i.bytes, i.zero)
  | _ => none
section
variable {P : Program} {n : Nat} {ops : Array Oper} {K : Fr → World → Prop} {l : List Oper} {f : Fr} {w : World} {ty : TypeId} {pos : String} {aft : Array Edge} {d : Nat}
theorem wpo_make {α : Type} {g : α → List Value} {z : α} {t e sz bytes c : Nat} {v : Value} {x y : Operand} (ht : mkTy P t = some (e, sz, bytes, some v)) (hv : v.cells = (g z).toArray) (hg : Wide g sz) (h0 : 0 < sz)
    (hx : ev f x = .int .i64 (c : Int)) (hy : ev f y = .int .i64 (c : Int)) (hb : bytes * c ≤ 281474976710656) (h63 : c ≤ 9223372036854775807) (hd : Nat.blt d n = true)
    (h : ∀ B w', NewB w w' B e ((List.replicate c z).flatMap g).toArray → WpO P n ops K l (up f d (.slice (some ⟨B, 0, none⟩) c c)) w') : WpO P n ops K (⟨some d, .makeSlice t x y, ty, pos, aft, none⟩ :: l) f w := by
  unfold mkTy at ht
  split at ht
  · rename_i el hu
    cases hq : P.info? el with
    | none => rw [hq] at ht; cases ht
    | some i =>
      rw [hq] at ht
      simp only [Option.map_some, Option.some.injEq, Prod.mk.injEq] at ht
      obtain ⟨rfl, rfl, rfl, hz⟩ := ht
      have hr := run_make (P := P) w t el i v hu hq hz .i64 .i64 (c : Int) (c : Int) (by omega) (Int.le_refl _) (by omega) (by omega)
      rw [hv, Int.toNat_natCast, made_rows hg h0] at hr
      exact wpo_val rfl hd (by simp only [execOp, hx, hy, Sem.run_bind, hr, Result.andThen_ok]; rfl) (h _ _ (newB_alloc w el _))
  · cases ht
end
end Go.Dw
