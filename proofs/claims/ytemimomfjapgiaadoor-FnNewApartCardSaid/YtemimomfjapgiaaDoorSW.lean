/-
  The library's contracts, as my walks take them: Itoa, Join, Builder.
-/
import Derived.Test.YtemimomfjapgiaaDoorSH
import Derived.Test.YtemimomfjapgiaaDoorST
import Derived.Lib.BufferOwn
import Derived.Lib.AppendIntMem
import Derived.Lib.SmallJoins
namespace Go.Proofs.YtemimomfjapgiaaDoor
open Go.RowKit Go.Dw Go.Joins
set_option linter.unusedVariables false
theorem dig_dec {u : Nat} (h : u < 100) : Lib.decDigits u = dec2 (u : Int) := by
  unfold dec2
  by_cases h1 : u < 10
  · rw [Lib.decDigits, dif_pos h1, if_pos (by omega)]
    unfold dg
    rw [show (48 + (u : Int)).toNat = 48 + u by omega]
  · rw [Lib.decDigits, dif_neg h1, Lib.decDigits, dif_pos (by omega), if_neg (by omega)]
    unfold dg
    rw [show (48 + (u : Int) / 10).toNat = 48 + u / 10 by omega, show (48 + (u : Int) % 10).toNat = 48 + u % 10 by omega]
    rfl
theorem itoa_dec {n : Int} (h : -9 ≤ n ∧ n ≤ 99) : Lib.itoa n = dec n := by
  unfold Lib.itoa dec
  by_cases h1 : n < 0
  · rw [if_pos h1, if_pos h1, dig_dec (by omega), show ((n.natAbs : Nat) : Int) = -n by omega]
  · rw [if_neg h1, if_neg h1, dig_dec (by omega), show ((n.toNat : Nat) : Int) = n by omega]
theorem low_below {w w' : World} (h : Below w.heap.size w w') : w.grownBy w' none := Lib.grownBy_below (World.grownBy.refl w none) h
theorem itoas_c (n : Int) (h : 0 ≤ n ∧ n ≤ 99) (w : World) : CallsR Tryd.prog 46 #[.int .i64 n] w (fun v w' => v = .string ⟨(dec n).toArray⟩ ∧ w.grownBy w' none) := by
  obtain ⟨i, rfl⟩ : ∃ i : Nat, n = i := ⟨n.toNat, by omega⟩
  refine Calls.mono (Tryd.strconv_Itoa_small i (by omega) w) ?_
  rintro e w' ⟨rfl, rfl⟩
  exact ⟨_, rfl, by rw [dig_dec (by omega), dec_p (by omega)], World.grownBy.refl _ none⟩
def Pow10 (w : World) : Prop := Lib.TabIs Tryd.prog w "internal/strconv.uint64pow10" .u64 Lib.pow10Tab
theorem itoa_c (n : Int) (h : -9 ≤ n ∧ n ≤ 99) (w : World) (ht : Pow10 w) : CallsR Tryd.prog 46 #[.int .i64 n] w (fun v w' => v = .string ⟨(dec n).toArray⟩ ∧ w.grownBy w' none) := by
  refine Calls.mono (Tryd.strconv_Itoa n (by omega) (by omega) w ht) ?_
  rintro e w' ⟨rfl, k, os, rfl⟩
  exact ⟨_, rfl, by rw [itoa_dec h], low_below (Lib.below_grow w.heap.size w (Nat.le_refl _) k os)⟩
/-- A capability's text. -/
def otx (r : Rt) : List UInt8 := ((((dec r.th ++ [46]) ++ dec r.ve) ++ flg r.rd [114]) ++ flg r.wr [119]) ++ flg r.wk [107]
theorem otx_eq (r : Rt) : otx r = ((dec r.th ++ [46]) ++ dec r.ve) ++ (flg r.rd [114] ++ (flg r.wr [119] ++ flg r.wk [107])) := by simp [otx]
theorem otx_len (r : Rt) : (otx r).length ≤ 10 := by
  have h1 := dec_len r.th
  have h2 := dec_len r.ve
  have h3 := flg_len r.rd 114
  have h4 := flg_len r.wr 119
  have h5 := flg_len r.wk 107
  unfold otx
  simp only [List.length_append, List.length_cons, List.length_nil]
  omega
theorem pow_low {w w' : World} (h : Pow10 w) (hg : w.grownBy w' none) : Pow10 w' :=
  tab_stays (g := 0) (by kernel_rfl) h (below_none hg (Nat.le_refl _)) (Nat.le_refl _)
theorem onec_str : ∀ q : List UInt8, ∀ u ∈ scell q, u.oneCell' = true := fun q u hu => by simp [scell] at hu; subst hu; rfl
/-- A line's words; the line. -/
def ln5 (p : Int) (t : Th) : List (List UInt8) := [dec p, kname t.kind, labtx t.lab, dec t.ve, dec t.num]
def lnA (p : Int) (t : Th) (k : Nat) : List (List UInt8) := ln5 p t ++ (t.slots.take k).map rtx
def lnB (p : Int) (t : Th) (k : Nat) : List (List UInt8) := lnA p t t.slots.length ++ (t.queue.take k).map fun n => 60 :: dec n
def lnC (p : Int) (t : Th) : List (List UInt8) := lnB p t t.queue.length ++ if t.kind = 5 then [62 :: dec t.to] else []
theorem lnA_0 (p : Int) (t : Th) : [dec p, kname t.kind, labtx t.lab, dec t.ve, dec t.num] = lnA p t 0 := by simp [lnA, ln5]
theorem lnA_s {p : Int} {t : Th} {k : Nat} {r : Rt} (h : t.slots[k]? = some r) : lnA p t k ++ [rtx r] = lnA p t (k + 1) := by
  unfold lnA
  rw [List.take_add_one, h]
  simp
theorem lnB_0 {p : Int} {t : Th} {k : Nat} (h : t.slots.length ≤ k) (hk : k ≤ t.slots.length) : lnA p t k = lnB p t 0 := by
  rw [show k = t.slots.length by omega]
  simp [lnB]
theorem lnB_s {p : Int} {t : Th} {k : Nat} {n : Int} (h : t.queue[k]? = some n) : lnB p t k ++ [[60] ++ dec n] = lnB p t (k + 1) := by
  unfold lnB
  rw [List.take_add_one, h]
  simp
theorem lnC_y {p : Int} {t : Th} {k : Nat} (h : t.queue.length ≤ k) (hk : k ≤ t.queue.length) (h5 : t.kind = 5) : lnB p t k ++ [[62] ++ dec t.to] = lnC p t := by
  rw [show k = t.queue.length by omega]
  simp [lnC, h5]
theorem lnC_n {p : Int} {t : Th} {k : Nat} (h : t.queue.length ≤ k) (hk : k ≤ t.queue.length) (h5 : ¬ t.kind = 5) : lnB p t k = lnC p t := by
  rw [show k = t.queue.length by omega]
  simp [lnC, h5]
/-- The line is the reference's. -/
theorem line_eq (p : Int) (t : Th) : Lib.join (lnC p t) [32] ++ [10] = (dec p ++ [32]) ++ thtx t := by
  unfold lnC lnB lnA ln5 thtx bh3 ah3 hd3
  simp only [List.cons_append, List.nil_append]
  rw [Lib.join_cons]
  unfold Lib.joinTail
  split
  · simp [List.flatMap, List.map_map, Function.comp_def]
  · simp [List.flatMap, List.map_map, Function.comp_def]
theorem line_len {t : Th} (h : thingOk t = true) (p : Int) : (Lib.join (lnC p t) [32]).length ≤ 94 := by
  have h1 := congrArg List.length (line_eq p t)
  have h2 := thtx_len h
  have h3 := dec_len p
  simp only [List.length_append, List.length_cons, List.length_nil] at h1
  omega
theorem join_c (b c : Nat) (L : List (List UInt8)) (w : World) (hO : Dw.Own w b 9 1 c L.length (L.flatMap scell)) (hl : (Lib.join L [32]).length ≤ 94) (hN : L.length ≤ 1000) :
    CallsR Tryd.prog 50 #[.slice (some ⟨b, 0, none⟩) L.length c, .string ⟨([32] : List UInt8).toArray⟩] w (fun v w' => v = .string ⟨(Lib.join L [32]).toArray⟩ ∧ w.grownBy w' none) := by
  have hm : (L.map fun s : List UInt8 => ByteArray.mk s.toArray).map (·.data.toList) = L := by rw [List.map_map]; simp [Function.comp_def]
  have hcap : L.length ≤ c := hO.blk.2.elim fun _ h => h.2.1
  have hj := Tryd.strings_Join b 0 c (L.map fun s : List UInt8 => ByteArray.mk s.toArray) ⟨([32] : List UInt8).toArray⟩ w (fun j x hx => by
      rw [List.getElem?_map] at hx
      cases hy : L[j]? with
      | none => rw [hy] at hx; cases hx
      | some y =>
        rw [hy] at hx
        obtain rfl : ByteArray.mk y.toArray = x := by simpa using hx
        have hr := Own.range wide_str hO hy 0 _ rfl
        rw [Nat.mul_one, Nat.add_zero] at hr
        rw [Nat.zero_add]
        exact hr) hO.lt (by rw [List.length_map]; omega) (by rw [List.length_map]; exact hcap) (by rw [hm]; show (Lib.join L [32]).length ≤ _; omega)
  rw [hm, List.length_map] at hj
  refine Calls.mono hj ?_
  rintro e w' ⟨rfl, hb⟩
  exact ⟨_, rfl, rfl, low_below hb⟩
/-! ### the Builder -/
def Bld (lo b : Nat) (l : List UInt8) (w : World) : Prop := Lib.IsBuilder 59 5 lo b (Lib.byteCells l) w
theorem bld_new {w' : World} {lo b : Nat} (h : Blk w' b 59 #[.pointer none, .slice none 0 0]) (hlo : lo ≤ b) : Bld lo b [] w' :=
  Or.inl ⟨hlo, .slice none 0 0, h, ⟨rfl, Or.inl ⟨rfl, rfl⟩⟩, by intro e; cases e⟩
theorem bldAt_low {T e : TypeId} {lo b : Nat} {p : Value} {bs : List Value} {w w' : World} (h : Lib.BuilderAt T e lo b p bs w) (hg : w.grownBy w' none) : Lib.BuilderAt T e lo b p bs w' := by
  obtain ⟨h1, v, h2, h3, h4⟩ := h
  have hlt : b < w.heap.size := (Array.getElem?_eq_some_iff.1 h2).1
  exact ⟨h1, v, (hg.block b hlt (by simp)).trans h2, World.ownsRow.kept h3 hg ((Classical.em (v.ownBlock = none)).imp id id), h4⟩
theorem bld_low {lo b : Nat} {l : List UInt8} {w w' : World} (h : Bld lo b l w) (hg : w.grownBy w' none) : Bld lo b l w' := h.elim (fun h => Or.inl (bldAt_low h hg)) (fun h => Or.inr (bldAt_low h hg))
theorem wstr_c (lo b : Nat) (l s : List UInt8) (w : World) (h : Bld lo b l w) (hl : l.length + s.length ≤ 1000000) (hlo : lo ≤ w.heap.size) :
    CallsR Tryd.prog 27 #[.pointer (some ⟨b, 0, none⟩), .string ⟨s.toArray⟩] w (fun v w' => v = .tuple #[.int .i64 (s.length : Int), .nilIface] ∧ Bld lo b (l ++ s) w' ∧ Below lo w w') := by
  have hlen : (Lib.byteCells l).length = l.length := by simp [Lib.byteCells]
  refine Calls.mono (Any.Builder_WriteString { Tryd.lays156 with } Tryd.Builder_Extra_156 lo b (Lib.byteCells l) ⟨s.toArray⟩ w h (by rw [hlen]; show l.length + s.toArray.size ≤ _; rw [List.size_toArray]; omega) hlo) ?_
  rintro e w' ⟨rfl, h1, h2⟩
  refine ⟨_, rfl, rfl, Or.inr ?_, h2⟩
  have e2 : Lib.byteCells l ++ Lib.strCells ⟨s.toArray⟩ = Lib.byteCells (l ++ s) := by rw [Lib.strCells_toArray]; simp [Lib.byteCells]
  rw [← e2]
  exact h1
theorem bstr_c (lo b : Nat) (l : List UInt8) (w : World) (h : Bld lo b l w) (hlo : lo ≤ w.heap.size) : CallsR Tryd.prog 29 #[.pointer (some ⟨b, 0, none⟩)] w (fun v w' => v = .string ⟨l.toArray⟩ ∧ Below lo w w') := by
  refine Calls.mono (Tryd.Builder_String_any lo b l w h hlo) ?_
  rintro e w' ⟨rfl, h2⟩
  exact ⟨_, rfl, rfl, h2⟩
theorem low_bld {w0 w w' : World} (h : w0.grownBy w none) (hb : Below w0.heap.size w w') : w0.grownBy w' none := grown_of_below ((below_none h (Nat.le_refl _)).trans hb)
def ltx (p : Int) (t : Th) : List UInt8 := (dec p ++ [32]) ++ thtx t
theorem ltx_len {t : Th} (h : thingOk t = true) (p : Int) : (ltx p t).length ≤ 94 := by
  unfold ltx
  have h1 := thtx_len h
  have h2 := dec_len p
  simp only [List.length_append, List.length_cons, List.length_nil]
  omega
theorem ttx_s2 {ms : List MTh} {k : Nat} (h : k < ms.length) : ttx (tabT ms) k ++ ltx ((k : Int) + 1) (mAt ms k).t = ttx (tabT ms) (k + 1) := by
  rw [← ttx_s h]
  simp [ltx]
end Go.Proofs.YtemimomfjapgiaaDoor
