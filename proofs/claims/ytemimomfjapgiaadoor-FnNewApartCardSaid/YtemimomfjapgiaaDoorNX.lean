/-
  A list put onto an empty slice; a table with one more thing, in memory; a string cut off ahead.
-/
import Derived.Test.YtemimomfjapgiaaDoorNW
import Derived.Test.YtemimomfjapgiaaDoorTO
import Derived.Test.YtemimomfjapgiaaDoorG4
namespace Go.Dw
open Go.RowKit
set_option linter.unusedVariables false
/-- A block that is new, with room behind what it holds. -/
structure NewO (w w' : World) (B : Nat) (T : TypeId) (sz cap n : Nat) (vs : List Value) : Prop where
  eq : B = w.heap.size
  own : Own w' B T sz cap n vs
  grw : w.grownBy w' none
theorem nO_ge {w a b : World} {r : Option Nat} {B : Nat} {T : TypeId} {sz cap n : Nat} {vs : List Value} (h : NewO a b B T sz cap n vs) (hl : w.grownBy a r) : w.heap.size ≤ B := by rw [h.eq]; exact hl.size
theorem nO_gtl {a b : World} {B C : Nat} {T : TypeId} {sz cap n : Nat} {vs : List Value} (h : NewO a b B T sz cap n vs) (hk : C < a.heap.size) : C < B := by rw [h.eq]; exact hk
section
variable {P : Program} {n : Nat} {ops : Array Oper} {K : Fr → World → Prop} {l : List Oper} {f : Fr} {w w' : World} {d : Nat} {ty : TypeId} {pos : String} {aft : Array Edge}
theorem wpo_append0 {α : Type} {g : α → List Value} {t e sz bytes c B : Nat} {z : Value} {x y : Operand} {ay : Option Addr} {zs : List α} (ht : mkTy P t = some (e, sz, bytes, some z)) (hz : z.cells.size = sz) (hg : Wide g sz) (h0 : 0 < sz)
    (hx : ev f x = .slice (some ⟨B, 0, none⟩) 0 0) (hy : ev f y = .slice ay zs.length c) (hs : SlAt w ay sz (zs.map g)) (hn : 0 < zs.length) (hm : zs.length ≤ 1099511627776) (hb : bytes ≤ 128) (hd : Nat.blt d n = true)
    (h : ∀ Y cap' w', NewO w w' Y e sz cap' zs.length (zs.flatMap g) → WpO P n ops K l (up f d (.slice (some ⟨Y, 0, none⟩) zs.length cap')) w') :
    WpO P n ops K (⟨some d, .call ⟨.builtin .append, #[x, y], #[t, t]⟩, ty, pos, aft, none⟩ :: l) f w := by
  unfold mkTy at ht
  split at ht
  · rename_i el hu
    cases hq : P.info? el with
    | none => rw [hq] at ht; cases ht
    | some i =>
      rw [hq] at ht
      simp only [Option.map_some, Option.some.injEq, Prod.mk.injEq] at ht
      obtain ⟨rfl, rfl, rfl, hzz⟩ := ht
      have hmx : maxLen = 9223372036854775807 := by decide
      cases ay with
      | none =>
        exfalso
        obtain ⟨q, hq2⟩ := get_lt hn
        obtain ⟨b, o, ha, _⟩ := hs _ _ (map_get hq2)
        cases ha
      | some a =>
        have hby : zs.length * i.bytes ≤ 1099511627776 * 128 := Nat.mul_le_mul hm hb
        have hr := run_append_grow (P := P) w t ty el i z hu hq hzz ⟨B, 0, none⟩ 0 0 [] (by simp) (fun j v hj => by simp at hj) a zs.length c (zs.flatMap g) (rows_len hg zs) (news_of hg h0 hs) (by omega) (by omega) (growslice_fits (by omega) (by rw [Nat.zero_add]; omega))
        rw [Nat.zero_add] at hr
        refine wpo_val rfl hd (by simp [execOp, resolve, invoke, builtin, hx, hy, hr]; exact ⟨rfl, rfl⟩) (h w.heap.size _ _ ⟨rfl, ?_, ?_⟩)
        · have hge := grownCap_ge w zs.length 0 el
          have hcm : grownCap w zs.length 0 el ≤ maxLen := grownCap_le_maxLen w zs.length 0 el (by omega)
          refine Own.ofBlk (rows_len hg zs) (heap_alloc_new w.drew _) hge hcm ?_ ?_
          · simp only [Array.size_append, List.size_toArray, size_zeroCells, hz, List.length_nil, rows_len hg zs, Nat.zero_add, ← Nat.add_mul]
            congr 1
            omega
          · simp only [Array.toList_append, List.nil_append]
            rw [← rows_len hg zs]
            exact List.take_left
        · exact ⟨rfl, rfl, rfl, by simp, fun k hk _ => heap_alloc_old w.drew _ hk⟩
  · cases ht
theorem wpo_lens {t : TypeId} {x : Operand} {a : List UInt8} (ht : P.underlying t = some .string) (hx : ev f x = .string ⟨a.toArray⟩) (hd : Nat.blt d n = true)
    (h : WpO P n ops K l (up f d (.int .i64 (a.length : Int))) w) : WpO P n ops K (⟨some d, .call ⟨.builtin .len, #[x], #[t]⟩, ty, pos, aft, none⟩ :: l) f w :=
  wpo_val rfl hd (by simp [execOp, resolve, invoke, builtin, hx, run_len_string w t ty _ ht]; rfl) h
theorem extract_app (a b : List UInt8) : (ByteArray.mk (a ++ b).toArray).extract 0 a.length = ByteArray.mk a.toArray := by
  apply ByteArray.ext
  apply Array.ext'
  simp [ByteArray.extract, ByteArray.copySlice]
theorem wpo_front {t : TypeId} {x y : Operand} {a b : List UInt8} (ht : P.underlying t = some .string) (hx : ev f x = .string ⟨(a ++ b).toArray⟩) (hy : ev f y = .int .i64 (a.length : Int)) (hd : Nat.blt d n = true)
    (h : WpO P n ops K l (up f d (.string ⟨a.toArray⟩)) w) : WpO P n ops K (⟨some d, .slice t x none (some y) none, ty, pos, aft, none⟩ :: l) f w :=
  wpo_val rfl hd (by
    have hs : (ByteArray.mk (a ++ b).toArray).size = (a ++ b).length := by simp [ByteArray.size]
    have h4 := run_slice_string_h (P := P) w t (ByteArray.mk (a ++ b).toArray) ht .i64 (a.length : Int) (by omega) (by rw [hs, List.length_append]; omega)
    have e : ((a.length : Int)).toNat = a.length := by omega
    rw [e, extract_app] at h4
    simp only [execOp, hx, hy, Option.map_none, Option.map_some, Sem.run_bind, run_sliceAt_string w t _ _ _ _ ht, h4, Result.andThen_ok]
    rfl) h
end
theorem tabAt_snoc {w : World} {a : Option Addr} {B cap T : Nat} {ms : List MTh} {X : MTh} (ho : Own w B T 8 cap (ms ++ [X]).length ((ms ++ [X]).flatMap MTh.cells)) (ht : TabAt w a ms) (hX : ThAt w X) : TabAt w (some ⟨B, 0, none⟩) (ms ++ [X]) :=
  ⟨Own.sl wide_mth ho, fun m hm => by
    rcases List.mem_append.1 hm with h | h
    · exact ht.2 m h
    · rw [List.mem_singleton.1 h]; exact hX⟩
theorem tabLen_snoc {ms : List MTh} {X : MTh} (h : TabLen ms) (hX : X.t.slots.length ≤ 1048576 ∧ X.t.queue.length ≤ 1048576) : TabLen (ms ++ [X]) := fun m hm => by
  rcases List.mem_append.1 hm with h2 | h2
  · exact h m h2
  · rw [List.mem_singleton.1 h2]; exact hX
abbrev mkNew (k : Int) (l : Lab) (zs : List Rt) (to : Int) (sa : Option Addr) (sc : Nat) : MTh := ⟨⟨k, l, 0, 0, zs, [], to⟩, sa, sc, none, 0⟩
theorem thNew_y {w : World} {k to : Int} {l : Lab} {S sc T : Nat} (h : Own w S T 5 sc 4 (zeros4.flatMap Rt.cells)) : ThAt w (mkNew k l zeros4 to (some ⟨S, 0, none⟩) sc) :=
  ⟨Own.sl wide_rt h, SlAt.nil, (fun e => by cases e), (fun _ => rfl)⟩
theorem thNew_n {w : World} {k to : Int} {l : Lab} : ThAt w (mkNew k l [] to none 0) := ⟨SlAt.nil, SlAt.nil, (fun _ => rfl), (fun _ => rfl)⟩
theorem mkNew_y {k to : Int} {l : Lab} {sa : Option Addr} {sc : Nat} (h : has4 k = true) : (mkNew k l zeros4 to sa sc).t = newTh k l to := by unfold newTh; rw [if_pos h]
theorem mkNew_n {k to : Int} {l : Lab} {sa : Option Addr} {sc : Nat} (h : has4 k = false) : (mkNew k l [] to sa sc).t = newTh k l to := by unfold newTh; rw [if_neg (by rw [h]; exact Bool.false_ne_true)]
theorem mkNew_len_y {k to : Int} {l : Lab} {sa : Option Addr} {sc : Nat} : (mkNew k l zeros4 to sa sc).t.slots.length ≤ 1048576 ∧ (mkNew k l zeros4 to sa sc).t.queue.length ≤ 1048576 := ⟨show (4 : Nat) ≤ 1048576 by decide, Nat.zero_le _⟩
theorem mkNew_len_n {k to : Int} {l : Lab} {sa : Option Addr} {sc : Nat} : (mkNew k l [] to sa sc).t.slots.length ≤ 1048576 ∧ (mkNew k l [] to sa sc).t.queue.length ≤ 1048576 := ⟨Nat.zero_le _, Nat.zero_le _⟩
theorem or_kl {a b : Bool} (h : a = true) : (a || b) = true := by rw [h]; rfl
theorem or_kr {a b : Bool} (h : b = true) : (a || b) = true := by rw [h, Bool.or_true]
theorem or_kb {a b : Bool} (h : a = false) (h2 : b = false) : (a || b) = false := by rw [h, h2]; rfl
theorem and_kl {a b : Bool} (h : a = false) : (a && b) = false := by rw [h]; rfl
theorem and_kr {a b : Bool} (h : b = false) : (a && b) = false := by rw [h, Bool.and_false]
theorem and_kb {a b : Bool} (h : a = true) (h2 : b = true) : (a && b) = true := by rw [h, h2]; rfl
/-- Two lists of bytes, one behind the other. -/
abbrev cat2 (a b : List UInt8) : List UInt8 := a ++ b
/-- The line of a thing that stands behind a table. -/
def lineX (ms : List MTh) (X : MTh) : List UInt8 := (dec ((ms.length : Int) + 1) ++ [32]) ++ thtx X.t
theorem snoc_len {ms : List MTh} {X : MTh} : (ms ++ [X]).length = ms.length + 1 := by simp
theorem tabT_snoc2 {ms : List MTh} {X : MTh} : tabT (ms ++ [X]) = tabT ms ++ [X.t] := by simp [tabT]
section
variable {ms : List MTh} {X : MTh} {k : Int} {l : Lab}
theorem newX_ok (h : tableOk (tabT ms) = true) (hl : ms.length < 8) (hX : X.t = newTh k l 0) (hk : 1 ≤ k ∧ k ≤ 4) (hb : labelOk l = true) : tableOk (tabT (ms ++ [X])) = true := by
  rw [tabT_snoc2, hX]
  exact table_new h (by rw [tabT_len]; exact hl) hk hb
theorem newX_gate (h : tableOk (tabT ms) = true) (hl : ms.length < 8) (hX : X.t = newTh 5 l k) (hk : 1 ≤ k ∧ k ≤ (ms.length : Int)) (hb : labelOk l = true) : tableOk (tabT (ms ++ [X])) = decide ((mAt ms (k - 1).toNat).t.kind = 1) := by
  rw [tabT_snoc2, hX, table_gate h (by rw [tabT_len]; exact hl) (by rw [tabT_len]; exact hk) hb, mAt_th]
theorem newX_text (h : tableOk (tabT ms) = true) (h2 : tableOk (tabT (ms ++ [X])) = true) : tabtx (tabT (ms ++ [X])) = cat2 (tabtx (tabT ms)) (lineX ms X) := by
  unfold lineX
  rw [tabT_snoc2] at h2 ⊢
  rw [tabtx_snoc h h2, tabT_len]
theorem lab4_ok {m : Int} : labelOk ⟨m % 4, m / 4 % 4⟩ = true := by
  unfold labelOk
  rw [inR_iff.2 (show 0 ≤ m % 4 ∧ m % 4 ≤ 3 by omega), inR_iff.2 (show 0 ≤ m / 4 % 4 ∧ m / 4 % 4 ≤ 3 by omega)]
  rfl
theorem newOk_4 (hk : 1 ≤ k ∧ k ≤ 4) (hb : labelOk l = true) : newOk k l 0 = true := new_ok hk hb
theorem newOk_5 (hk : 1 ≤ k ∧ k ≤ 8) (hb : labelOk l = true) : newOk 5 l k = true := new_ok5 hk hb
end
theorem snoc_last {ms : List MTh} {X : MTh} {m : Nat} (h : m = ms.length) : (ms ++ [X])[m]? = some X := by subst h; simp
theorem tabLive_0 {ts : List Th} : tabLive ts ⟨0, 0, false, false, false⟩ = false := by
  unfold tabLive live
  rw [show inR (0 : Int) 1 (ts.length : Int) = false by unfold inR; rw [decide_eq_false (by omega)]; rfl]
  simp
theorem rightOk_th {r : Rt} (h : rightOk r = true) : 0 ≤ r.th := by
  unfold rightOk at h
  rw [Bool.or_eq_true] at h
  rcases h with h | h
  · rw [of_decide_eq_true h]; decide
  · rw [Bool.and_eq_true, Bool.and_eq_true] at h
    have := inR_iff.1 h.1.1
    omega
theorem line_long {a : List UInt8} {ms : List MTh} {X : MTh} : decide ((a.length : Int) < ((cat2 a (lineX ms X)).length : Int)) = true := by
  rw [decide_eq_true_iff]
  simp only [cat2, lineX, List.length_append, List.length_cons, List.length_nil]
  omega
end Go.Dw
