/-
  Tables as they lie in memory.
-/
import Derived.Test.YtemimomfjapgiaaDoorQ
namespace Go.Dw
/-- A slice whose memory is not block X. -/
def SlX (X : Option Nat) (w : World) (a : Option Addr) (sz : Nat) (xs : List (List Value)) : Prop := ∀ k x, xs[k]? = some x → ∃ b o, a = some ⟨b, o, none⟩ ∧ some b ≠ X ∧ w.rangeAt b (o + k * sz) x
section
variable {X : Option Nat} {w w' : World} {a : Option Addr} {sz : Nat} {xs : List (List Value)}
theorem SlX.sl (h : SlX X w a sz xs) : SlAt w a sz xs := fun k x hk => by
  obtain ⟨b, o, ha, _, hr⟩ := h k x hk
  exact ⟨b, o, ha, hr⟩
theorem SlX.of_sl (h : SlAt w a sz xs) : SlX none w a sz xs := fun k x hk => by
  obtain ⟨b, o, ha, hr⟩ := h k x hk
  exact ⟨b, o, ha, by simp, hr⟩
theorem SlX.low (h : SlX X w a sz xs) (hg : w.grownBy w' none) : SlX X w' a sz xs := fun k x hk => by
  obtain ⟨b, o, ha, hb, hr⟩ := h k x hk
  exact ⟨b, o, ha, hb, range_grown hr hg (by simp)⟩
theorem SlX.grown (h : SlX X w a sz xs) (hg : w.grownBy w' X) : SlX X w' a sz xs := fun k x hk => by
  obtain ⟨b, o, ha, hb, hr⟩ := h k x hk
  exact ⟨b, o, ha, hb, range_grown hr hg hb⟩
theorem SlX.nil : SlX X w a sz [] := fun k x hk => by simp at hk
theorem SlX.rows {α : Type} {g : α → List Value} (hg : Wide g sz) {ys : List α} {B : Nat} {T : TypeId} (h : Blk w B T (ys.flatMap g).toArray) (hB : some B ≠ X) : SlX X w (some ⟨B, 0, none⟩) sz (ys.map g) := fun k x hk => by
  obtain ⟨b, o, ha, hr⟩ := rows_sl hg h k x hk
  simp only [Option.some.injEq, Addr.mk.injEq] at ha
  obtain ⟨rfl, rfl, _⟩ := ha
  exact ⟨_, _, rfl, hB, hr⟩
theorem SlX.own {α : Type} {g : α → List Value} (hg : Wide g sz) {ys : List α} {B cap n : Nat} {T : TypeId} (h : Own w B T sz cap n (ys.flatMap g)) (hB : some B ≠ X) : SlX X w (some ⟨B, 0, none⟩) sz (ys.map g) := fun k x hk => by
  obtain ⟨b, o, ha, hr⟩ := Own.sl hg h k x hk
  simp only [Option.some.injEq, Addr.mk.injEq] at ha
  obtain ⟨rfl, rfl, _⟩ := ha
  exact ⟨_, _, rfl, hB, hr⟩
theorem SlX.ownN {α : Type} {g : α → List Value} (hg : Wide g sz) (h0 : 0 < sz) {ys : List α} {cap n lo : Nat} {T : TypeId} (h : OwnN lo w a T sz cap n (ys.flatMap g)) (hB : ∀ b, X = some b → b < lo) : SlX X w a sz (ys.map g) := fun k x hk => by
  obtain ⟨b, o, ha, hr⟩ := OwnN.sl hg h0 h k x hk
  refine ⟨b, o, ha, fun e => ?_, hr⟩
  have h1 := hB b e.symm
  rcases h.form with ⟨h2, _⟩ | ⟨B, h2, h3, _⟩
  · rw [h2] at ha; cases ha
  · rw [h2] at ha
    simp only [Option.some.injEq, Addr.mk.injEq] at ha
    omega
end
def ThX (X : Option Nat) (w : World) (m : MTh) : Prop := SlX X w m.sa 5 (m.t.slots.map Rt.cells) ∧ SlX X w m.qa 1 (m.t.queue.map icell) ∧ (m.sa = none → m.sc = 0) ∧ (m.qa = none → m.qc = 0)
def TabX (X : Option Nat) (w : World) (a : Option Addr) (ms : List MTh) : Prop := SlX X w a 8 (ms.map MTh.cells) ∧ ∀ m ∈ ms, ThX X w m
section
variable {X : Option Nat} {w w' : World} {a : Option Addr} {m : MTh} {ms : List MTh}
theorem ThX.at (h : ThX X w m) : ThAt w m := ⟨h.1.sl, h.2.1.sl, h.2.2⟩
theorem ThX.low (h : ThX X w m) (hg : w.grownBy w' none) : ThX X w' m := ⟨h.1.low hg, h.2.1.low hg, h.2.2⟩
theorem ThX.grown (h : ThX X w m) (hg : w.grownBy w' X) : ThX X w' m := ⟨h.1.grown hg, h.2.1.grown hg, h.2.2⟩
theorem TabX.at (h : TabX X w a ms) : TabAt w a ms := ⟨h.1.sl, fun m hm => (h.2 m hm).at⟩
theorem TabX.low (h : TabX X w a ms) (hg : w.grownBy w' none) : TabX X w' a ms := ⟨h.1.low hg, fun m hm => (h.2 m hm).low hg⟩
theorem TabX.grown (h : TabX X w a ms) (hg : w.grownBy w' X) : TabX X w' a ms := ⟨h.1.grown hg, fun m hm => (h.2 m hm).grown hg⟩
theorem TabX.th (h : TabX X w a ms) {k : Nat} (hk : ms[k]? = some m) : ThX X w m := h.2 m (List.mem_of_getElem? hk)
end
/-! ### tables that are built up -/
def padM (n : Nat) (ys : List MTh) : List MTh := ys ++ List.replicate (n - ys.length) MTh.zero
theorem padM_zero (n : Nat) : padM n [] = List.replicate n MTh.zero := by simp [padM]
theorem padM_all {n : Nat} {ys : List MTh} (h : ys.length = n) : padM n ys = ys := by simp [padM, h]
theorem padM_len {n : Nat} {ys : List MTh} (h : ys.length ≤ n) : (padM n ys).length = n := by simp [padM]; omega
theorem padM_set {n k : Nat} {ys : List MTh} {m : MTh} (hk : ys.length = k) (h : k < n) : (padM n ys).set k m = padM n (ys ++ [m]) := by
  unfold padM
  rw [List.set_append_right _ _ (by omega), hk, Nat.sub_self, show n - k = (n - (ys ++ [m]).length) + 1 by simp; omega, List.replicate_succ, List.set_cons_zero, List.append_assoc]
  rfl
theorem tabT_snoc {ys ms : List MTh} {k : Nat} {m m' : MTh} (h : tabT ys = (tabT ms).take k) (hx : ms[k]? = some m) (he : m'.t = m.t) : tabT (ys ++ [m']) = (tabT ms).take (k + 1) := by
  have h1 : (tabT ms)[k]? = some m.t := by unfold tabT; rw [List.getElem?_map, hx]; rfl
  rw [List.take_add_one, h1, ← h]
  simp [tabT, he]
theorem tabT_all {ys ms : List MTh} {k : Nat} (h : tabT ys = (tabT ms).take k) (hk : ms.length ≤ k) : tabT ys = tabT ms := by
  rwa [List.take_of_length_le (by rw [tabT_len]; exact hk)] at h
theorem TabLen.of {ys ms : List MTh} (h : tabT ys = tabT ms) (hl : TabLen ms) : TabLen ys := fun m hm => by
  have h1 : m.t ∈ tabT ms := by rw [← h]; exact List.mem_map.2 ⟨m, hm, rfl⟩
  obtain ⟨m', hm', e⟩ := List.mem_map.1 h1
  have := hl m' hm'
  rwa [e] at this
theorem tabT_length {ys ms : List MTh} (h : tabT ys = tabT ms) : ys.length = ms.length := by
  have := congrArg List.length h
  rwa [tabT_len, tabT_len] at this
/-- What is known of the lengths of a table that comes in. -/
def TabBig (ms : List MTh) : Prop := ∀ m ∈ ms, m.t.slots.length ≤ 9223372036854775807 ∧ m.t.queue.length ≤ 9223372036854775807
theorem TabBig.at {ms : List MTh} (h : TabBig ms) {k : Nat} {m : MTh} (hk : ms[k]? = some m) : m.t.slots.length ≤ 9223372036854775807 ∧ m.t.queue.length ≤ 9223372036854775807 := h m (List.mem_of_getElem? hk)
theorem take_len {ms : List MTh} {k : Nat} {m : MTh} (h : ∀ x ∈ ms.take k, x.t.slots.length ≤ 1048576 ∧ x.t.queue.length ≤ 1048576) (hx : ms[k]? = some m) (hm : m.t.slots.length ≤ 1048576 ∧ m.t.queue.length ≤ 1048576) :
    ∀ x ∈ ms.take (k + 1), x.t.slots.length ≤ 1048576 ∧ x.t.queue.length ≤ 1048576 := fun x hxm => by
  rw [List.take_add_one, hx] at hxm
  rcases List.mem_append.1 hxm with h1 | h1
  · exact h x h1
  · simp at h1; subst h1; exact hm
theorem take_len_all {ms : List MTh} {k : Nat} (h : ∀ x ∈ ms.take k, x.t.slots.length ≤ 1048576 ∧ x.t.queue.length ≤ 1048576) (hk : ms.length ≤ k) : TabLen ms := by
  rwa [List.take_of_length_le hk] at h
def viewHigh (ts : List Th) (k : Int) (l : Lab) : Bool := tableOk ts && labelOk l && inR k 1 (ts.length : Int) && !flow (thAt ts k).lab l
theorem tab_row {ms : List MTh} (h : tableOk (tabT ms) = true) {i : Nat} (hi : i < ms.length) : rowOk (tabT ms) (mAt ms i).t = true := by
  rw [tableOk_rows] at h
  exact List.all_eq_true.1 (Bool.and_eq_true_iff.1 h).2 _ (List.mem_of_getElem? (tab_at hi))
theorem tab_thing {ms : List MTh} (h : tableOk (tabT ms) = true) {i : Nat} (hi : i < ms.length) : thingOk (mAt ms i).t = true := by
  have h1 := tab_row h hi
  unfold rowOk at h1
  simp only [Bool.and_eq_true] at h1
  exact h1.1.1
theorem tab_lab {ms : List MTh} (h : tableOk (tabT ms) = true) {i : Nat} (hi : i < ms.length) : labelOk (mAt ms i).t.lab = true := (thingOk_parts (tab_thing h hi)).2.1
theorem tab_len {ms : List MTh} (h : tableOk (tabT ms) = true) : 1 ≤ ms.length ∧ ms.length ≤ 8 := by
  unfold tableOk at h
  have h1 := inR_iff.1 (Bool.and_eq_true_iff.1 h).1
  rw [tabT_len] at h1
  omega
theorem viewHigh_s {ms : List MTh} {k : Int} {l : Lab} : (((tableOk (tabT ms) && labelOk l) && inR k 1 (ms.length : Int)) && !flow (mAt ms (k - 1).toNat).t.lab l) = viewHigh (tabT ms) k l := by
  unfold viewHigh
  rw [mAt_th, tabT_len]
theorem viewHigh_i {ms : List MTh} {k : Int} {l : Lab} : (((tableOk (tabT ms) && labelOk l) && inR k 1 (ms.length : Int)) && !labelFlow (mAt ms (k - 1).toNat).t.lab l) = viewHigh (tabT ms) k l := by
  rw [← viewHigh_s]
  cases h1 : tableOk (tabT ms) with
  | false => rfl
  | true =>
    cases h2 : labelOk l with
    | false => rfl
    | true =>
      cases h3 : inR k 1 (ms.length : Int) with
      | false => rfl
      | true =>
        have h4 := inR_iff.1 h3
        have h5 := tab_lab h1 (i := (k - 1).toNat) (by omega)
        simp only [labelFlow, h5, h2, Bool.true_and]
theorem kindAt_m {ms : List MTh} {k kd : Int} : (inR k 1 (ms.length : Int) && decide ((mAt ms (k - 1).toNat).t.kind = kd)) = kindAt (tabT ms) k kd := by
  unfold kindAt
  rw [mAt_th, tabT_len]
end Go.Dw
