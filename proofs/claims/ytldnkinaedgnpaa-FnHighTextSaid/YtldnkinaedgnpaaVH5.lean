/- Laws and walks: my templates, and what a program of mine (gen.py) printed out of the functions; only what the row reaches. -/
import Derived.Test.YtldnkinaedgnpaaVH4
section
namespace Go.Dw.J
open Go.Dw Go.RowKit
open Go.Conc (G crowd Goes Deaf QuitsD woken awake woken_run woken_quitsD Aside Deaf_other Deaf_own)
open Go.ConcR (KK WgAt stA smA Payload DC0)
open Go.ConcN (RW DWs AtR0 AtK1 AtD1 AtD2 AtD3 AtD4 WgLive Has RelBy PayAt AsideCell upd upd_same upd_ne)
open Go.CJ (CJ OkW Ok0)
set_option linter.unusedVariables false
set_option linter.unusedSimpArgs false
set_option linter.unusedSectionVars false
section
variable [Payload] {ph : Ph} {gs : Array Goroutine} {w w' : World} {t : Trace} {D : Nat → WS}
theorem Vy (hG : Geo ph) (hl : ∀ k b, (D k).ob b → ph.N0 ≤ b) (ha : ∀ k k' b, k ≠ k' → (D k).ob b → ¬ (D k').ob b) : Go.CJ.Apart ph.s0 (ShP ph) (OwnP ph D) (RdP ph) := by
  have hCW := hG.CW
  refine ⟨fun k k' l hk hk' h h' => ?_, fun k k' l hk hk' h h' => ?_, fun k l hk h h' => ?_, fun k l hk h h' => ?_⟩
  · rcases h with ⟨b, h1, h2⟩ | ⟨j, h1, h2⟩ <;> rcases h' with ⟨b', h3, h4⟩ | ⟨j', h3, h4⟩
    · cases J3 h1 h3
      exact Classical.byContradiction fun hne => ha k k' b hne h2 h4
    · subst h4
      have : ph.C = b := h1
      have := hl k b h2
      unfold Ph.N0 at this; omega
    · subst h2
      have : ph.C = b' := h3
      have := hl k' b' h4
      unfold Ph.N0 at this; omega
    · subst h2
      simp only [Loc.cell.injEq, Addr.mk.injEq, true_and, and_true] at h4
      have := Ng h1 h3 h4
      omega
  · obtain ⟨b', h3, h4, h5, h6⟩ := h'
    rcases h with ⟨b, h1, h2⟩ | ⟨j, h1, h2⟩
    · have e := J3 h1 h3
      have := hl k b h2
      unfold Ph.N0 at this; omega
    · subst h2; exact h5 (Eq.symm h3)
  · rcases h' with h' | h'
    · rcases h with ⟨b, h1, h2⟩ | ⟨j, h1, h2⟩
      · have := (hG.shun l b h' h1).1
        have := hl k b h2
        unfold Ph.N0 at this; omega
      · subst h2; exact (hG.shun _ ph.C h' rfl).2 hG.seenC
    · rcases h with ⟨b, h1, h2⟩ | ⟨j, h1, h2⟩
      · cases J3 h1 h'
        have := hl k _ h2
        unfold Ph.N0 at this; omega
      · subst h2
        have : ph.C = ph.Wg := h'
        omega
  · obtain ⟨b, h1, h2, h3, h4⟩ := h
    rcases h' with h' | h'
    · exact (hG.shun l b h' h1).2 h4
    · cases J3 h1 h'; omega
theorem Com.apart (hG : Geo ph) (h : Com ph gs w t D) : Go.CJ.Apart ph.s0 (ShP ph) (OwnP ph D) (RdP ph) := Vy hG (fun k b hb => (h.obl k b hb).1) h.oba
theorem Com.growCT (h : Com ph gs w t D) {k : Nat} {x' : WS} (hm : ∀ b, (D k).ob b → x'.ob b) (hn : ∀ b, x'.ob b → (D k).ob b ∨ w.heap.size ≤ b) : CJ ph.s0 (ShP ph) (OwnP ph (upd D k x')) (RdP ph) (stA ph.Wg) t gs.size := by
  refine h.ct.grow (fun j l hl => ?_) fun j l hl => ?_
  · rcases hl with ⟨b, h1, h2⟩ | h1
    · refine Or.inl ⟨b, h1, ?_⟩
      by_cases e : j = k
      · subst e; rw [upd_same]; exact hm b h2
      · rw [upd_ne D _ e]; exact h2
    · exact Or.inr h1
  · rcases hl with ⟨b, h1, h2⟩ | h1
    · by_cases e : j = k
      · subst e
        rw [upd_same] at h2
        rcases hn b h2 with h3 | h3
        · exact Or.inl (Or.inl ⟨b, h1, h3⟩)
        · refine Or.inr fun i y hy e2 => ?_
          have h4 := Go.CJ.touchAt_low h.low hy
          rw [e2] at h4
          have := S3 h1 h4
          omega
      · rw [upd_ne D _ e] at h2
        exact Or.inl (Or.inl ⟨b, h1, h2⟩)
    · exact Or.inl (Or.inr h1)
theorem Com.stepK (h : Com ph gs w t D) {k : Nat} (hk : k < gs.size) {gk g' : Goroutine} {D' : Nat → WS} {fn : FuncId} {pos : String} {es : Array Event} (hD : ∀ j, j ≠ k → D' j = D j) (ho : w'.os = w.os) (hp : w'.output = w.output) (hs : w.heap.size ≤ w'.heap.size)
    (hlo : ∀ b, b < ph.N0 → b ≠ ph.C → b ≠ ph.Wg → w'.heap[b]? = w.heap[b]?) (hob : ∀ j, j ≠ k → ∀ b, (D j).ob b → w'.heap[b]? = w.heap[b]?) (hl : WgLive ph.ty ph.Wg w → WgLive ph.ty ph.Wg w') (hC : ph.n ≠ 0 → ∃ cs, w'.heap[ph.C]? = some (.cells cs ph.TT (0, 0)) ∧ cs.size = ph.n * ph.sz)
    (hrow : ∀ j, j ≠ k → ph.s0 ≤ j → ∀ i, i < ph.sz → w'.cell? ⟨ph.C, (j - ph.s0) * ph.sz + i, none⟩ = w.cell? ⟨ph.C, (j - ph.s0) * ph.sz + i, none⟩)
    (hself : 1 ≤ k → Sit ph k (D' k) (D' k).stage g' w' (Deaf (t ++ MemOp.ofEvents k fn pos es) k)) (hold : 1 ≤ k → k < ph.s0 → (D' k).stage = 1) (hrcd : ph.s0 ≤ k → ((D' k).stage ≠ 8 ∨ g0 (D' k).A = 1) → Rec ph k (D' k) w')
    (hrel : ph.s0 ≤ k → (D' k).stage ≤ 6 → ∃ r, RelBy (stA ph.Wg) (t ++ MemOp.ofEvents k fn pos es) k r) (hbx : ph.s0 ≤ k → (D' k).ob (D' k).bx) (hnone : k < ph.s0 → ∀ b, ¬ (D' k).ob b) (hobk : ∀ b, (D' k).ob b → ph.N0 ≤ b ∧ b < w'.heap.size ∧ ∀ j, j ≠ k → ¬ (D j).ob b)
    (hct : CJ ph.s0 (ShP ph) (OwnP ph D') (RdP ph) (stA ph.Wg) (t ++ MemOp.ofEvents k fn pos es) gs.size) (hlow : ∀ e ∈ es, (MemAct.ofEvent e).low w'.heap.size) :
    Com ph ((gs.map (woken ph.P gk g' w')).setIfInBounds k g') w' (t ++ MemOp.ofEvents k fn pos es) D' := by
  have hgo : ∀ op ∈ MemOp.ofEvents k fn pos es, op.g = k := fun op hop => by obtain ⟨e, _, rfl⟩ := Go.Conc.mem_ofEvents hop; rfl
  have hsz : ((gs.map (woken ph.P gk g' w')).setIfInBounds k g').size = gs.size := by simp
  have hlt : ∀ j b, j ≠ k → (D j).ob b → b < w.heap.size := fun j b _ hb => (h.obl j b hb).2
  refine ⟨h.s1, by rw [hsz]; exact h.szl, by rw [hsz]; exact h.szu, fun j h1 h2 => ?_, fun j h1 h2 => ?_, fun j hj b => ?_, fun j h1 h2 h3 => ?_, fun j h1 h2 h3 => ?_, fun j b hb => ?_, fun j j' b hne hb hb' => ?_, fun j h1 h2 => ?_, hC, hl h.live, fun b hb hbC => ?_, h.os0.trans ho.symm, h.out0.trans hp.symm, by rw [hsz]; exact hct, fun j hj => ?_, fun op hop => ?_, fun b hb hbC => (hlo b (by unfold Ph.N0; omega) hbC (by omega)).trans (h.same b hb hbC)⟩
  · rw [hsz] at h2
    by_cases e : j = k
    · subst e
      exact ⟨g', by rw [Array.getElem?_setIfInBounds_self_of_lt (by simpa using h2)], hself h1⟩
    · obtain ⟨g, hg, hsit⟩ := h.wk j h1 h2
      refine ⟨g, ?_, ?_⟩
      · rw [Array.getElem?_setIfInBounds_ne (Ne.symm e), Array.getElem?_map, hg, Option.map_some, hsit.woken]
      · rw [hD j e, Deaf_other t (g' := k) (Ne.symm e) _ hgo]
        refine hsit.other ho hp hs hlo (fun b _ _ hb => hob j e b hb) hl fun h3 h4 => ?_
        rcases Nat.lt_or_ge j ph.s0 with h5 | h5
        · exact absurd (h.old j h1 h5) h3
        · exact hob j e _ (h.bxo j h5 h2)
  · by_cases e : j = k
    · subst e; exact hold h1 h2
    · rw [hD j e]; exact h.old j h1 h2
  · rw [hsz] at hj
    by_cases e : j = k
    · subst e
      rcases hj with h1 | h1
      · exact hnone h1 b
      · omega
    · rw [hD j e]; exact h.nob j hj b
  · rw [hsz] at h2
    by_cases e : j = k
    · subst e; exact hrcd h1 h3
    · rw [hD j e] at h3 ⊢
      have hr := h.rcd j h1 h2 h3
      refine hr.other ho hp hs hlo (fun b _ _ hb => hob j e b hb) (fun i v hi => hrow j e h1 i ?_) fun _ => hob j e _ (h.bxo j h1 h2)
      rw [← hr.len]
      exact (List.getElem?_eq_some_iff.1 hi).1
  · rw [hsz] at h2
    by_cases e : j = k
    · subst e; exact hrel h1 h3
    · rw [hD j e] at h3
      obtain ⟨r, hr⟩ := h.rel j h1 h2 h3
      exact ⟨r, hr.appOther hgo (Ne.symm e)⟩
  · by_cases e : j = k
    · subst e; exact ⟨(hobk b hb).1, (hobk b hb).2.1⟩
    · rw [hD j e] at hb
      exact ⟨(h.obl j b hb).1, Nat.lt_of_lt_of_le (h.obl j b hb).2 hs⟩
  · by_cases e : j = k
    · subst e
      rw [hD j' (Ne.symm hne)] at hb'
      exact (hobk b hb).2.2 j' (Ne.symm hne) hb'
    · by_cases e' : j' = k
      · subst e'
        rw [hD j e] at hb
        exact (hobk b hb').2.2 j e hb
      · rw [hD j e] at hb
        rw [hD j' e'] at hb'
        exact h.oba j j' b hne hb hb'
  · rw [hsz] at h2
    by_cases e : j = k
    · subst e; exact hbx h1
    · rw [hD j e]; exact h.bxo j h1 h2
  · rw [hlo b (by unfold Ph.N0; omega) hbC (by omega)]
    exact h.vis0 b hb hbC
  · rw [hsz] at hj
    rw [Deaf_other t (g' := k) (by omega) _ hgo]
    exact h.above j hj
  · rcases Array.mem_append.1 hop with h1 | h1
    · exact MemAct.low_mono hs (h.low op h1)
    · obtain ⟨e, he, rfl⟩ := Go.Conc.mem_ofEvents h1
      exact hlow e he
end
end Go.Dw.J
end
section
namespace Go.Dw.J
open Go.Dw Go.RowKit
open Go.Conc (G crowd Goes Deaf QuitsD woken awake woken_run woken_quitsD Aside Deaf_other Deaf_own)
open Go.ConcR (KK WgAt stA smA Payload DC0)
open Go.ConcN (WgLive sumTo sumTo_congr le_sumTo sumTo_upd upd upd_same upd_ne)
set_option linter.unusedVariables false
set_option linter.unusedSimpArgs false
set_option linter.unusedSectionVars false
def cnt (s : Nat) : Nat := if 5 ≤ s then 1 else 0
def Vc (n : Nat) (σ : Nat → Nat) : Nat := sumTo n fun i => cnt (σ i)
inductive Md (n : Nat) (σ : Nat → Nat) (s v : Nat) : Int → Int → Prop
  | pre : s = 1 ∨ s = 2 → (∀ i, i < n → σ i = 9) → Md n σ s v 0 0
  | opn : s = 3 ∨ s = 4 ∨ s = 5 → (∀ i, i < n → 5 ≤ σ i ∨ σ i = 1) → (s = 5 → Vc n σ ≤ v) → Md n σ s v ((Vc n σ : Nat) * KK) 0
  | reg : s = 6 → (∀ i, i < n → 5 ≤ σ i ∨ σ i = 1) → 1 ≤ Vc n σ → Md n σ s v ((Vc n σ : Nat) * KK + 1) 0
  | last (L : Nat) : s = 6 → L < n → (σ L = 4 ∨ σ L = 3 ∨ σ L = 2) → (∀ i, i < n → i ≠ L → σ i = 1) → Md n σ s v (if σ L = 2 then 0 else 1) 0
  | sema : s = 6 → (∀ i, i < n → σ i = 1) → Md n σ s v 0 1
  | fin : s = 8 ∨ s = 9 → (∀ i, i < n → σ i = 1) → Md n σ s v 0 0
theorem My {n : Nat} {σ τ : Nat → Nat} (h : ∀ i, i < n → τ i = σ i) : Vc n τ = Vc n σ := sumTo_congr fun i hi => by simp only [h i hi]
theorem Md.congr {n : Nat} {σ τ : Nat → Nat} {s v : Nat} {st sm : Int} (hm : Md n σ s v st sm) (h : ∀ i, i < n → τ i = σ i) : Md n τ s v st sm := by
  have hv := My h
  cases hm with
  | pre h1 h2 => exact .pre h1 fun i hi => (h i hi).trans (h2 i hi)
  | opn h1 h2 h3 => rw [← hv]; exact .opn h1 (fun i hi => by rw [h i hi]; exact h2 i hi) (fun e => by rw [hv]; exact h3 e)
  | reg h1 h2 h3 => rw [← hv]; exact .reg h1 (fun i hi => by rw [h i hi]; exact h2 i hi) (by rw [hv]; exact h3)
  | last L h1 h2 h3 h4 => rw [← h L h2]; exact .last L h1 h2 (by rw [h L h2]; exact h3) fun i hi e => by rw [h i hi]; exact h4 i hi e
  | sema h1 h2 => exact .sema h1 fun i hi => (h i hi).trans (h2 i hi)
  | fin h1 h2 => exact .fin h1 fun i hi => (h i hi).trans (h2 i hi)
theorem Lv {n i : Nat} (σ : Nat → Nat) (x : Nat) (hi : i < n) : Vc n (upd σ i x) + cnt (σ i) = Vc n σ + cnt x := sumTo_upd σ x cnt hi
theorem Eh (n : Nat) (σ : Nat → Nat) : Vc n σ ≤ n := by
  have := Go.ConcN.sumTo_le (f := fun i => cnt (σ i)) (c := 1) (j := n) fun i _ => by simp only [cnt]; split <;> omega
  simpa [Vc] using this
theorem Md.counted {n i : Nat} {σ : Nat → Nat} {s v : Nat} {st sm : Int} (hm : Md n σ s v st sm) (hi : i < n) (h5 : 5 ≤ σ i) (h9 : σ i ≠ 9) {x : Nat} (hx : 5 ≤ x) : Md n (upd σ i x) s v st sm := by
  have hv : Vc n (upd σ i x) = Vc n σ := by
    have := Lv σ x hi
    have c1 : cnt (σ i) = 1 := by simp [cnt, h5]
    have c2 : cnt x = 1 := by simp [cnt, hx]
    omega
  have ho : (∀ i, i < n → 5 ≤ σ i ∨ σ i = 1) → ∀ a, a < n → 5 ≤ upd σ i x a ∨ upd σ i x a = 1 := fun h a ha => by
    by_cases e : a = i
    · subst e; rw [upd_same]; exact .inl hx
    · rw [upd_ne σ _ e]; exact h a ha
  cases hm with
  | pre h1 h2 => exact absurd (h2 i hi) h9
  | opn h1 h2 h3 => rw [← hv]; exact .opn h1 (ho h2) (fun e => by rw [hv]; exact h3 e)
  | reg h1 h2 h3 => rw [← hv]; exact .reg h1 (ho h2) (by rw [hv]; exact h3)
  | last L h1 h2 h3 h4 =>
    by_cases e : i = L
    · subst e; omega
    · have := h4 i hi e; omega
  | sema h1 h2 => have := h2 i hi; omega
  | fin h1 h2 => have := h2 i hi; omega
theorem Md.isLast {n i : Nat} {σ : Nat → Nat} {s v : Nat} {st sm : Int} (hm : Md n σ s v st sm) (hi : i < n) (h : σ i = 4 ∨ σ i = 3 ∨ σ i = 2) : s = 6 ∧ (∀ a, a < n → a ≠ i → σ a = 1) ∧ st = (if σ i = 2 then 0 else 1) ∧ sm = 0 := by
  cases hm with
  | pre _ h2 => have := h2 i hi; omega
  | opn _ h2 _ => have := h2 i hi; omega
  | reg _ h2 _ => have := h2 i hi; omega
  | last L h1 h2 h3 h4 =>
    by_cases e : i = L
    · subst e; exact ⟨h1, h4, rfl, rfl⟩
    · have := h4 i hi e; omega
  | sema _ h2 => have := h2 i hi; omega
  | fin _ h2 => have := h2 i hi; omega
theorem Ga {n i : Nat} {σ : Nat → Nat} (hi : i < n) (h1 : Vc n σ = 1) (hc : cnt (σ i) = 1) : ∀ a, a < n → a ≠ i → cnt (σ a) = 0 := by
  intro a ha e
  have h0 := Lv σ 0 hi
  have c0 : cnt 0 = 0 := rfl
  have := le_sumTo (f := fun x => cnt (upd σ i 0 x)) ha
  simp only [upd_ne σ _ e] at this
  simp only [Vc] at h0 h1
  omega
theorem Md.add {n i : Nat} {σ : Nat → Nat} {s v : Nat} {st sm : Int} (hm : Md n σ s v st sm) (hi : i < n) (h5 : 5 ≤ σ i) (h9 : σ i ≠ 9) :
    sm = 0 ∧ ∃ v0 wt : Nat, wt ≤ 1 ∧ v0 + 1 ≤ n ∧ st = ((v0 : Int) + 1) * KK + wt ∧
      ((v0 = 0 ∧ wt = 1) → Md n (upd σ i 4) s v ((v0 : Int) * KK + wt) 0) ∧ (¬ (v0 = 0 ∧ wt = 1) → Md n (upd σ i 1) s v ((v0 : Int) * KK + wt) 0) := by
  have c1 : cnt (σ i) = 1 := by simp [cnt, h5]
  have hle := Eh n σ
  have hV1 : 1 ≤ Vc n σ := by have := le_sumTo (f := fun x => cnt (σ x)) hi; simp only [Vc]; omega
  have hv : Vc n (upd σ i 1) + 1 = Vc n σ := by
    have := Lv σ 1 hi
    have c2 : cnt 1 = 0 := rfl
    omega
  have ho : (∀ i, i < n → 5 ≤ σ i ∨ σ i = 1) → ∀ a, a < n → 5 ≤ upd σ i 1 a ∨ upd σ i 1 a = 1 := fun h a ha => by
    by_cases e : a = i
    · subst e; rw [upd_same]; exact .inr rfl
    · rw [upd_ne σ _ e]; exact h a ha
  cases hm with
  | pre h1 h2 => exact absurd (h2 i hi) h9
  | opn h1 h2 h3 =>
    refine ⟨rfl, Vc n (upd σ i 1), 0, by omega, by omega, ?_, fun h => by omega, fun _ => ?_⟩
    · rw [← hv]; push_cast; omega
    · have := Md.opn (n := n) (σ := upd σ i 1) (s := s) (v := v) h1 (ho h2) (fun e => by have := h3 e; omega)
      simpa using this
  | reg h1 h2 h3 =>
    refine ⟨rfl, Vc n (upd σ i 1), 1, by omega, by omega, ?_, fun h => ?_, fun h => ?_⟩
    · rw [← hv]; push_cast; omega
    · have hoth : ∀ a, a < n → a ≠ i → upd σ i 4 a = 1 := fun a ha e => by
        rw [upd_ne σ _ e]
        have c0 := Ga hi (by omega) c1 a ha e
        have := h2 a ha
        simp only [cnt] at c0
        split at c0 <;> omega
      have := Md.last (n := n) (σ := upd σ i 4) (s := s) (v := v) i h1 hi (by rw [upd_same]; exact .inl rfl) hoth
      rw [upd_same] at this
      rw [h.1]
      simpa using this
    · have := Md.reg (n := n) (σ := upd σ i 1) (s := s) (v := v) h1 (ho h2) (by omega)
      simpa using this
  | last L h1 h2 h3 h4 =>
    by_cases e : i = L
    · subst e; omega
    · have := h4 i hi e; omega
  | sema h1 h2 => have := h2 i hi; omega
  | fin h1 h2 => have := h2 i hi; omega
end Go.Dw.J
end
section
namespace Go.Dw.J
open Go.Dw Go.RowKit
open Go.Conc (G crowd Goes Deaf QuitsD woken awake woken_run woken_quitsD Aside Deaf_other Deaf_own)
open Go.ConcR (KK WgAt stA smA Payload DC0 Bk ofEvent_cell ofEvent_loc_mark)
open Go.ConcN (RW AtR0 AtK1 AtD1 AtD2 AtD3 AtD4 WgLive Has RelBy PayAt sumTo sumTo_congr le_sumTo sumTo_upd upd upd_same upd_ne)
open Go.CJ (CJ OkW Ok0)
set_option linter.unusedVariables false
set_option linter.unusedSimpArgs false
set_option linter.unusedSectionVars false
section
variable {n i s v : Nat} {σ : Nat → Nat} {st sm : Int}
theorem Md.lastTo (hm : Md n σ s v st sm) (hi : i < n) (h : σ i = 4 ∨ σ i = 3 ∨ σ i = 2) {x : Nat} (hx : x = 4 ∨ x = 3 ∨ x = 2) : Md n (upd σ i x) s v (if x = 2 then 0 else 1) 0 := by
  obtain ⟨h1, h2, _⟩ := hm.isLast hi h
  have := Md.last (n := n) (σ := upd σ i x) (s := s) (v := v) i h1 hi (by rw [upd_same]; exact hx) fun a ha e => by rw [upd_ne σ _ e]; exact h2 a ha e
  rwa [upd_same] at this
theorem Md.lastUp (hm : Md n σ s v st sm) (hi : i < n) (h : σ i = 4 ∨ σ i = 3 ∨ σ i = 2) : Md n (upd σ i 1) s v 0 1 := by
  obtain ⟨h1, h2, _⟩ := hm.isLast hi h
  exact .sema h1 fun a ha => by
    by_cases e : a = i
    · subst e; exact upd_same ..
    · rw [upd_ne σ _ e]; exact h2 a ha e
end
section
variable [Payload] {ph : Ph} {gs : Array Goroutine} {w w' : World} {t : Trace} {D : Nat → WS}
theorem Ii {k : Nat} {D : Nat → WS} {fn : FuncId} {pos : String} {es : Array Event} (h : ∀ e ∈ es, Bk ph.Wg e) : ∀ op ∈ MemOp.ofEvents k fn pos es, OkW (ShP ph) (OwnP ph D) (RdP ph) k op := by
  intro op hop
  obtain ⟨e, he, rfl⟩ := Go.Conc.mem_ofEvents hop
  refine ⟨rfl, fun x hx => ?_⟩
  rcases h e he with h1 | h1 | ⟨a, wr, rfl, ha⟩
  · simp only [ofEvent_loc_mark h1] at hx; cases hx
  · simp only [ofEvent_loc_mark h1] at hx; cases hx
  · simp only [ofEvent_cell, MemAct.touch?, Option.some.injEq] at hx
    subst hx
    exact .inl ⟨.inr ha, by simp, by simp⟩
theorem E3 {B : Nat} {es : Array Event} (h : ∀ e ∈ es, Bk ph.Wg e) (hB : ph.Wg < B) : ∀ e ∈ es, (MemAct.ofEvent e).low B := by
  intro e he
  rcases h e he with h1 | h1 | ⟨a, wr, rfl, ha⟩
  · rw [ofEvent_loc_mark h1]; trivial
  · rw [ofEvent_loc_mark h1]; trivial
  · rw [ofEvent_cell]
    show a.block < B
    rw [ha]; exact hB
theorem Nz {k : Nat} {fn : FuncId} {pos : String} {es : Array Event} {a : Addr} (h : ∀ e ∈ es, Bk ph.Wg e) : ∀ op ∈ MemOp.ofEvents k fn pos es, op.act ≠ .mark (.release a) := by
  intro op hop e2
  obtain ⟨e, he, rfl⟩ := Go.Conc.mem_ofEvents hop
  rcases h e he with h1 | h1 | ⟨a, wr, rfl, ha⟩
  · simp only [ofEvent_loc_mark h1] at e2; cases e2
  · simp only [ofEvent_loc_mark h1] at e2; cases e2
  · simp only [ofEvent_cell] at e2; cases e2
theorem WgLive.lt {ty : TypeId} {Wg : Nat} {w : World} (h : WgLive ty Wg w) : Wg < w.heap.size := by
  obtain ⟨st, sm, h⟩ := h
  unfold WgAt at h
  exact (Array.getElem?_eq_some_iff.1 h).1
theorem Com.bookW (hG : Geo ph) (h : Com ph gs w t D) {k : Nat} (hk0 : ph.s0 ≤ k) (hk : k < gs.size) {gk g' : Goroutine} {x' : WS} {fn : FuncId} {pos : String} {es : Array Event}
    (hAs : Aside ph.Wg w w') (hl : WgLive ph.ty ph.Wg w → WgLive ph.ty ph.Wg w') (hob : x'.ob = (D k).ob) (hbx : x'.bx = (D k).bx) (h8 : x'.stage ≠ 8) (hsit : Sit ph k x' x'.stage g' w' (deafBehind (Deaf t k) es))
    (hrcd : Rec ph k (D k) w) (hAR : x'.AR = (D k).AR) (hro : x'.row = (D k).row) (hrel : x'.stage ≤ 6 → ∃ r, RelBy (stA ph.Wg) (t ++ MemOp.ofEvents k fn pos es) k r) (hok : ∀ op ∈ MemOp.ofEvents k fn pos es, OkW (ShP ph) (OwnP ph (upd D k x')) (RdP ph) k op) (hnr : ∀ op ∈ MemOp.ofEvents k fn pos es, op.act ≠ .mark (.release (stA ph.Wg)))
    (hlow : ∀ e ∈ es, (MemAct.ofEvent e).low w'.heap.size) :
    Com ph ((gs.map (woken ph.P gk g' w')).setIfInBounds k g') w' (t ++ MemOp.ofEvents k fn pos es) (upd D k x') := by
  have hCW := hG.CW
  have hs1 := h.s1
  have hblk : ∀ b, b ≠ ph.Wg → w'.heap[b]? = w.heap[b]? := fun b hb => hAs.block b hb
  have hlt : ∀ j b, (D j).ob b → b ≠ ph.Wg := fun j b hb e => by have := (h.obl j b hb).1; unfold Ph.N0 at this; omega
  have hA := h.apart hG
  refine h.stepK hk (fun j hj => upd_ne D _ hj) hAs.os hAs.output (Nat.le_of_eq hAs.size.symm) (fun b _ _ hb => hblk b hb) (fun j _ b hb => hblk b (hlt j b hb)) hl ?_ (fun j _ _ i _ => Go.ConcN.cell_of_block (hblk ph.C (by omega)) _) (fun _ => ?_) (fun _ h => by omega) (fun _ _ => ?_) (fun _ => ?_) (fun _ => ?_) (fun h => by omega) (fun b hb => ?_) ?_ hlow
  · intro hn0
    obtain ⟨cs, h1, h2⟩ := h.cells hn0
    exact ⟨cs, (hblk ph.C (by omega)).trans h1, h2⟩
  · rw [upd_same, Deaf_own]; exact hsit
  · rw [upd_same]
    refine ⟨by rw [hAR]; exact hrcd.sees.still hAs.os hAs.output (Nat.le_of_eq hAs.size.symm) fun b hb => hblk b fun e => hrcd.noWg (e ▸ hb), by rw [hAR]; exact hrcd.rds, by rw [hAR]; exact hrcd.noC, by rw [hAR]; exact hrcd.noWg, by rw [hro, hAR]; exact hrcd.out, by rw [hro]; exact hrcd.len, fun j v hj => ?_, by rw [hAR, hob]; exact hrcd.ob, fun e => absurd e h8, fun e => absurd e h8, by rw [hAR, hbx]; exact hrcd.nobx, by rw [hAR]; exact hrcd.low0⟩
    · rw [hro] at hj
      exact (Go.ConcN.cell_of_block (hblk ph.C (by omega)) _).trans (hrcd.laid j v hj)
  · rw [upd_same]; exact hrel
  · rw [upd_same, hob, hbx]; exact h.bxo k hk0 hk
  · rw [upd_same, hob] at hb
    exact ⟨(h.obl k b hb).1, by rw [hAs.size]; exact (h.obl k b hb).2, fun j hj hb' => h.oba j k b hj hb' hb⟩
  · refine CJ.appW (Vy hG (fun j b hb => ?_) fun j j' b hne hb hb' => ?_) (h.growCT (fun b hb => by rw [hob]; exact hb) fun b hb => .inl (by rw [← hob]; exact hb)) hk0 hk hok hnr
    · by_cases e : j = k
      · subst e; rw [upd_same, hob] at hb; exact (h.obl _ b hb).1
      · rw [upd_ne D _ e] at hb; exact (h.obl _ b hb).1
    · have key : ∀ j b, (upd D k x' j).ob b → (D j).ob b := fun j b hb => by
        by_cases e : j = k
        · subst e; rw [upd_same, hob] at hb; exact hb
        · rw [upd_ne D _ e] at hb; exact hb
      exact h.oba j j' b hne (key _ _ hb) (key _ _ hb')
end
end Go.Dw.J
end
section
namespace Go.Dw.J
open Go.Dw Go.RowKit
open Go.Conc (G crowd Goes Deaf QuitsD woken awake woken_run woken_quitsD Aside Deaf_other Deaf_own)
open Go.ConcR (KK WgAt stA smA Payload DC0 Bk ofEvent_cell ofEvent_loc_mark bk_of_mute rd wr mk)
open Go.ConcN (RW AtR0 AtK1 AtD1 AtD2 AtD3 AtD4 WgLive Has RelBy PayAt sumTo sumTo_congr le_sumTo sumTo_upd upd upd_same upd_ne bk_cell)
open Go.CJ (CJ OkW Ok0)
set_option linter.unusedVariables false
set_option linter.unusedSimpArgs false
set_option linter.unusedSectionVars false
section
variable [Payload]
def σf (ph : Ph) (N : Nat) (D : Nat → WS) (i : Nat) : Nat := if ph.s0 + i < N then (D (ph.s0 + i)).stage else 9
structure Sta (ph : Ph) (gs : Array Goroutine) (w : World) (t : Trace) (D : Nat → WS) (s v : Nat) : Prop where
  com : Com ph gs w t D
  md : ∃ st sm, WgAt ph.ty ph.Wg w st sm ∧ Md ph.n (σf ph gs.size D) s v st sm
def WkStep (ph : Ph) (gs : Array Goroutine) (w : World) (t : Trace) (D : Nat → WS) (s v k : Nat) (gk : Goroutine) : Prop :=
  ∃ g' w' es x', stepG ph.P false gk w = .go g' w' es ∧ Sta ph ((gs.map (woken ph.P gk g' w')).setIfInBounds k g') w' (t ++ MemOp.ofEvents k gk.frame.fn gk.frame.place es) (upd D k x') s v ∧ Lo (x'.stage, x'.tr) ((D k).stage, (D k).tr) ∧
    w'.os = w.os ∧ w'.output = w.output ∧ w.heap.size ≤ w'.heap.size ∧ (∀ b, b < w.heap.size → b ≠ ph.C → b ≠ ph.Wg → ¬ (D k).ob b → w'.heap[b]? = w.heap[b]?) ∧ (∀ b, x'.ob b → (D k).ob b ∨ w.heap.size ≤ b) ∧
    ((∃ st, WgAt ph.ty ph.Wg w' st 1) → (∃ st, WgAt ph.ty ph.Wg w st 1) ∨ (mayWake ph.P gk = true ∧ g'.status = .running))
variable {ph : Ph} {gs : Array Goroutine} {w w' : World} {t : Trace} {D : Nat → WS} {s v k : Nat} {gk g' : Goroutine} {es : Array Event} {x' : WS} {st sm st' sm' : Int}
theorem σf_upd {N : Nat} (h0 : ph.s0 ≤ k) (hk : k < N) : σf ph N (upd D k x') = upd (σf ph N D) (k - ph.s0) x'.stage := by
  funext i
  unfold σf
  by_cases e : i = k - ph.s0
  · subst e
    rw [upd_same, show ph.s0 + (k - ph.s0) = k by omega, if_pos hk, upd_same]
  · rw [upd_ne _ _ e]
    split
    · rw [upd_ne D _ (by omega)]
    · rfl
theorem σf_old {N : Nat} (h0 : k < ph.s0) : σf ph N (upd D k x') = σf ph N D := by
  funext i
  unfold σf
  split
  · rw [upd_ne D _ (by omega)]
  · rfl
theorem σf_at {N : Nat} (h0 : ph.s0 ≤ k) (hk : k < N) : σf ph N D (k - ph.s0) = (D k).stage := by
  unfold σf
  rw [show ph.s0 + (k - ph.s0) = k by omega, if_pos hk]
theorem Ns (hG : Geo ph) (h : Sta ph gs w t D s v) (h0 : ph.s0 ≤ k) (hk : k < gs.size) (hgo : stepG ph.P false gk w = .go g' w' es) (hAs : Aside ph.Wg w w') (hwg : WgAt ph.ty ph.Wg w' st' sm') (hob : x'.ob = (D k).ob) (hbx : x'.bx = (D k).bx) (hAR : x'.AR = (D k).AR) (hro : x'.row = (D k).row) (h8 : x'.stage ≠ 8)
    (hsit : Sit ph k x' x'.stage g' w' (deafBehind (Deaf t k) es)) (hrcd : Rec ph k (D k) w) (hrel : x'.stage ≤ 6 → ∃ r, RelBy (stA ph.Wg) (t ++ MemOp.ofEvents k gk.frame.fn gk.frame.place es) k r) (hok : ∀ op ∈ MemOp.ofEvents k gk.frame.fn gk.frame.place es, OkW (ShP ph) (OwnP ph (upd D k x')) (RdP ph) k op)
    (hnr : ∀ op ∈ MemOp.ofEvents k gk.frame.fn gk.frame.place es, op.act ≠ .mark (.release (stA ph.Wg))) (hlow : ∀ e ∈ es, (MemAct.ofEvent e).low w'.heap.size) (hmd : Md ph.n (upd (σf ph gs.size D) (k - ph.s0) x'.stage) s v st' sm') (hlo : Lo (x'.stage, x'.tr) ((D k).stage, (D k).tr))
    (hwk : sm' = 1 → (∃ st, WgAt ph.ty ph.Wg w st 1) ∨ (mayWake ph.P gk = true ∧ g'.status = .running)) : WkStep ph gs w t D s v k gk := by
  have hcom := h.com.bookW hG h0 hk (gk := gk) (x' := x') (fn := gk.frame.fn) (pos := gk.frame.place) hAs (fun _ => ⟨_, _, hwg⟩) hob hbx h8 hsit hrcd hAR hro hrel hok hnr hlow
  refine ⟨g', w', es, x', hgo, ⟨hcom, st', sm', hwg, ?_⟩, hlo, hAs.os, hAs.output, Nat.le_of_eq hAs.size.symm, fun b _ _ hb _ => hAs.block b hb, fun b hb => .inl (by rw [← hob]; exact hb), fun ⟨st2, h2⟩ => hwk (hwg.unique h2).2⟩
  rw [show ((gs.map (woken ph.P gk g' w')).setIfInBounds k g').size = gs.size by simp, σf_upd h0 hk]
  exact hmd
theorem Gr (hG : Geo ph) (h : Sta ph gs w t D s v) (h0 : ph.s0 ≤ k) (hk : k < gs.size) (hgo : stepG ph.P false gk w = .go g' w' es) (hAs : Aside ph.Wg w w') (hwg : WgAt ph.ty ph.Wg w' st' sm') {s' m' : Nat} {d : Nat} (hd : Deaf t k = d) (h7 : (D k).stage ≤ 6) (h8 : s' ≤ 6) (hs : ∀ x' : WS, x' = { D k with stage := s', tr := chain m' } → Sit ph k x' s' g' w' (deafBehind d es))
    (hbk : ∀ e ∈ es, Bk ph.Wg e) (hdf : ∀ jx e, es[jx]? = some e → (MemAct.ofEvent e).touch? = none ∨ 0 < deafBehind d (es.extract 0 jx))
    (hmd : Md ph.n (upd (σf ph gs.size D) (k - ph.s0) s') s v st' sm') (hlo : s' < (D k).stage ∨ (s' = (D k).stage ∧ (D k).tr = chain (m' + 1)))
    (hwk : sm' = 1 → (∃ st, WgAt ph.ty ph.Wg w st 1) ∨ (mayWake ph.P gk = true ∧ g'.status = .running)) : WkStep ph gs w t D s v k gk := by
  have hWlt := WgLive.lt (h.com.live)
  refine Ns hG h h0 hk (x' := { D k with stage := s', tr := chain m' }) hgo hAs hwg rfl rfl rfl rfl (by show s' ≠ 8; omega) (by rw [hd]; exact hs _ rfl) (h.com.rcd k h0 hk (.inl (by omega))) (fun _ => ?_) (Ii hbk) (Nz hbk) (E3 hbk (by rw [hAs.size]; exact hWlt)) hmd ?_ hwk
  · obtain ⟨r, hr⟩ := h.com.rel k h0 hk h7
    exact ⟨r, hr.book hd _ _ hbk hdf⟩
  · rcases hlo with h1 | ⟨h1, h2⟩
    · exact Lo.stage h1
    · show Lo (s', chain m') _
      rw [h2, h1]
      exact Lo.kid (W7 m')
theorem Wz (hG : Geo ph) (h : Sta ph gs w t D s v) (h0 : ph.s0 ≤ k) (hk : k < gs.size) (hgo : stepG ph.P false gk w = .go g' w #[]) {m' d : Nat} (hd : Deaf t k = d) (h7 : (D k).stage ≤ 6) (htr : (D k).tr = chain (m' + 1)) (hs : ∀ x' : WS, x' = { D k with tr := chain m' } → Sit ph k x' (D k).stage g' w d) : WkStep ph gs w t D s v k gk := by
  obtain ⟨st, sm, h1, h2⟩ := h.md
  refine Gr hG h h0 hk hgo (.refl _ w) h1 hd h7 h7 (m' := m') (fun x' e => hs x' (by rw [e])) (by simp) (by simp) ?_ (.inr ⟨rfl, htr⟩) fun e => .inl ⟨st, e ▸ h1⟩
  refine h2.congr fun i hi => ?_
  by_cases e : i = k - ph.s0
  · subst e; rw [upd_same, σf_at h0 hk]
  · rw [upd_ne _ _ e]
end
end Go.Dw.J
end
section
namespace Go.Dw.J
open Go.Dw Go.RowKit
open Go.Conc (G crowd Goes Deaf QuitsD woken awake woken_run woken_quitsD Aside Deaf_other Deaf_own aside_setCell semEvents)
open Go.ConcR (KK WgAt stA smA Payload DC0 Bk ofEvent_cell ofEvent_loc_mark bk_of_mute rd wr mk)
open Go.ConcN (RW AtR0 AtK1 AtD1 AtD2 AtD3 AtD4 WgLive Has RelBy PayAt sumTo sumTo_congr le_sumTo sumTo_upd upd upd_same upd_ne bk_cell)
open Go.CJ (CJ OkW Ok0)
set_option linter.unusedVariables false
set_option linter.unusedSimpArgs false
set_option linter.unusedSectionVars false
section
variable [Payload] {ph : Ph} {gs : Array Goroutine} {w w' : World} {t : Trace} {D : Nat → WS} {s v k : Nat} {gk g' : Goroutine} {es : Array Event} {x' : WS} {st sm st' sm' : Int}
theorem Com.lt (h : Com ph gs w t D) (h0 : ph.s0 ≤ k) (hk : k < gs.size) : k - ph.s0 < ph.n := by have := h.szu; omega
theorem Oi (hG : Geo ph) (h : Sta ph gs w t D s v) (h0 : ph.s0 ≤ k) (hk : k < gs.size) (hd : Deaf t k = 0) (h6 : (D k).stage = 6) {m : Nat} (htr : (D k).tr = chain m) (hg : Goes ph.P false (RW ph.ty ph.Wg (D k).bx 1 0 0) DC0 (AtK1 ph.P ph.ty ph.Wg (D k).bx 1 0 1) m gk w) : WkStep ph gs w t D s v k gk := by
  rcases Goes.cases hg with hstop | ⟨m', rfl, hstep⟩
  · obtain ⟨_, g', hgo, m₂, hk'⟩ := hstop w (RW.refl w)
    obtain ⟨st, sm, h1, h2⟩ := h.md
    refine Gr hG h h0 hk hgo (.refl _ w) h1 hd (by omega) (s' := 5) (m' := m₂) (by omega) (fun x' e => by subst e; exact .d1 rfl hk') (by intro e he; simp at he; subst he; exact .inl rfl) (by intro jx e he; exact .inl (by have := Array.mem_of_getElem? he; simp at this; subst this; rfl)) ?_ (.inl (by omega)) fun e => .inl ⟨st, e ▸ h1⟩
    exact h2.counted (h.com.lt h0 hk) (by rw [σf_at h0 hk]; omega) (by rw [σf_at h0 hk]; omega) (by omega)
  · obtain ⟨g', w', es, hgo, ⟨rfl, rfl⟩, hg'⟩ := hstep w (RW.refl w)
    exact Wz hG h h0 hk hgo hd (by omega) htr fun x' e => by subst e; rw [h6]; exact .k1 rfl hg'
theorem Oe (hG : Geo ph) (hn : ph.n < 2147483648) (h : Sta ph gs w t D s v) (h0 : ph.s0 ≤ k) (hk : k < gs.size) (hd : Deaf t k = 1) (h5 : (D k).stage = 5) {m : Nat} (htr : (D k).tr = chain m) (hg : Goes ph.P false (RW ph.ty ph.Wg (D k).bx 1 0 0) DC0 (AtD1 ph.P ph.ty ph.Wg (D k).bx 1 0 1) m gk w) : WkStep ph gs w t D s v k gk := by
  rcases Goes.cases hg with hstop | ⟨m', rfl, hstep⟩
  · obtain ⟨_, hall⟩ := hstop w (RW.refl w)
    obtain ⟨st, sm, h1, h2⟩ := h.md
    obtain ⟨rfl, v0, wt, hwt, hv0, rfl, hl, hq⟩ := h2.add (h.com.lt h0 hk) (by rw [σf_at h0 hk]; omega) (by rw [σf_at h0 hk]; omega)
    have bk2 : ∀ e ∈ #[rd (stA ph.Wg), wr (stA ph.Wg)], Bk ph.Wg e := by intro e he; simp at he; rcases he with rfl | rfl <;> exact bk_cell _ _ rfl
    have df2 : ∀ jx e, (#[rd (stA ph.Wg), wr (stA ph.Wg)] : Array Event)[jx]? = some e → (MemAct.ofEvent e).touch? = none ∨ 0 < deafBehind 1 ((#[rd (stA ph.Wg), wr (stA ph.Wg)] : Array Event).extract 0 jx) := by
      intro jx e he
      match jx, he with
      | 0, _ => exact .inr (by simp [deafBehind])
      | 1, _ => exact .inr (by simp [deafBehind, rd])
      | jx + 2, he => simp at he
    obtain ⟨g', hgo, k1, k2⟩ := hall v0 wt hwt (by omega) h1
    by_cases hc : v0 = 0 ∧ wt = 1
    · obtain ⟨m₂, hk'⟩ := k1 hc
      exact Gr hG h h0 hk hgo (aside_setCell w (stA ph.Wg) _) (h1.setSt _) hd (by omega) (s' := 4) (m' := m₂) (by omega) (fun x' e => by subst e; exact .d2 rfl hk') bk2 df2 (hl hc) (.inl (by omega)) fun e => by simp at e
    · obtain ⟨q, hq'⟩ := k2 hc
      exact Gr hG h h0 hk hgo (aside_setCell w (stA ph.Wg) _) (h1.setSt _) hd (by omega) (s' := 1) (m' := q) (by omega) (fun x' e => by subst e; exact .quit rfl hq') bk2 df2 (hq hc) (.inl (by omega)) fun e => by simp at e
  · obtain ⟨g', w', es, hgo, ⟨rfl, rfl⟩, hg'⟩ := hstep w (RW.refl w)
    exact Wz hG h h0 hk hgo hd (by omega) htr fun x' e => by subst e; rw [h5]; exact .d1 rfl hg'
theorem Of (hG : Geo ph) (h : Sta ph gs w t D s v) (h0 : ph.s0 ≤ k) (hk : k < gs.size) (hd : Deaf t k = 1) (h4 : (D k).stage = 4) {m : Nat} (htr : (D k).tr = chain m) (hg : Goes ph.P false (RW ph.ty ph.Wg (D k).bx 1 0 0) DC0 (AtD2 ph.P ph.ty ph.Wg (D k).bx 1 0 1) m gk w) : WkStep ph gs w t D s v k gk := by
  rcases Goes.cases hg with hstop | ⟨m', rfl, hstep⟩
  · obtain ⟨_, hall⟩ := hstop w (RW.refl w)
    obtain ⟨st, sm, h1, h2⟩ := h.md
    have hσ := σf_at (ph := ph) (D := D) h0 hk
    have hlast : σf ph gs.size D (k - ph.s0) = 4 ∨ σf ph gs.size D (k - ph.s0) = 3 ∨ σf ph gs.size D (k - ph.s0) = 2 := by omega
    obtain ⟨_, _, e1, e2⟩ := h2.isLast (h.com.lt h0 hk) hlast
    rw [if_neg (by omega)] at e1
    subst e1 e2
    obtain ⟨g', hgo, m₂, hk'⟩ := hall h1
    refine Gr hG h h0 hk hgo (.refl _ w) h1 hd (by omega) (s' := 3) (m' := m₂) (by omega) (fun x' e => by subst e; exact .d3 rfl hk') (by intro e he; simp at he; subst he; exact bk_cell _ _ rfl) (by intro jx e he; exact .inr (by cases jx with | zero => simp [deafBehind] | succ j => simp at he)) ?_ (.inl (by omega)) fun e => by simp at e
    have := h2.lastTo (h.com.lt h0 hk) hlast (x := 3) (by omega)
    simpa using this
  · obtain ⟨g', w', es, hgo, ⟨rfl, rfl⟩, hg'⟩ := hstep w (RW.refl w)
    exact Wz hG h h0 hk hgo hd (by omega) htr fun x' e => by subst e; rw [h4]; exact .d2 rfl hg'
theorem Og (hG : Geo ph) (h : Sta ph gs w t D s v) (h0 : ph.s0 ≤ k) (hk : k < gs.size) (hd : Deaf t k = 1) (h3 : (D k).stage = 3) {m : Nat} (htr : (D k).tr = chain m) (hg : Goes ph.P false (RW ph.ty ph.Wg (D k).bx 1 0 0) DC0 (AtD3 ph.P ph.ty ph.Wg (D k).bx 1 0 1) m gk w) : WkStep ph gs w t D s v k gk := by
  rcases Goes.cases hg with hstop | ⟨m', rfl, hstep⟩
  · obtain ⟨_, hall⟩ := hstop w (RW.refl w)
    obtain ⟨st, sm, h1, h2⟩ := h.md
    have hσ := σf_at (ph := ph) (D := D) h0 hk
    have hlast : σf ph gs.size D (k - ph.s0) = 4 ∨ σf ph gs.size D (k - ph.s0) = 3 ∨ σf ph gs.size D (k - ph.s0) = 2 := by omega
    obtain ⟨_, _, e1, e2⟩ := h2.isLast (h.com.lt h0 hk) hlast
    rw [if_neg (by omega)] at e1
    subst e1 e2
    obtain ⟨g', hgo, m₂, hk'⟩ := hall h1
    refine Gr hG h h0 hk hgo (aside_setCell w (stA ph.Wg) _) (h1.setSt _) hd (by omega) (s' := 2) (m' := m₂) (by omega) (fun x' e => by subst e; exact .d4 rfl hk') (by intro e he; simp at he; subst he; exact bk_cell _ _ rfl) (by intro jx e he; exact .inr (by cases jx with | zero => simp [deafBehind] | succ j => simp at he)) ?_ (.inl (by omega)) fun e => by simp at e
    have := h2.lastTo (h.com.lt h0 hk) hlast (x := 2) (by omega)
    simpa using this
  · obtain ⟨g', w', es, hgo, ⟨rfl, rfl⟩, hg'⟩ := hstep w (RW.refl w)
    exact Wz hG h h0 hk hgo hd (by omega) htr fun x' e => by subst e; rw [h3]; exact .d3 rfl hg'
theorem Oh (hG : Geo ph) (h : Sta ph gs w t D s v) (h0 : ph.s0 ≤ k) (hk : k < gs.size) (hd : Deaf t k = 1) (h2 : (D k).stage = 2) {m : Nat} (htr : (D k).tr = chain m) (hg : Goes ph.P false (RW ph.ty ph.Wg (D k).bx 1 0 0) DC0 (AtD4 ph.P ph.ty ph.Wg) m gk w) : WkStep ph gs w t D s v k gk := by
  rcases Goes.cases hg with hstop | ⟨m', rfl, hstep⟩
  · obtain ⟨_, hmw, hall⟩ := hstop w (RW.refl w)
    obtain ⟨st, sm, h1, hm⟩ := h.md
    have hσ := σf_at (ph := ph) (D := D) h0 hk
    have hlast : σf ph gs.size D (k - ph.s0) = 4 ∨ σf ph gs.size D (k - ph.s0) = 3 ∨ σf ph gs.size D (k - ph.s0) = 2 := by omega
    obtain ⟨_, _, e1, e2⟩ := hm.isLast (h.com.lt h0 hk) hlast
    rw [if_pos (by omega)] at e1
    subst e1 e2
    obtain ⟨g', hgo, q, hq⟩ := hall h1
    have hrun' : g'.status = .running := by
      cases q with
      | zero => exact absurd hq.2 (by decide)
      | succ q => exact hq.elim (fun x => absurd x.2 (by decide)) (fun x => x.1)
    refine Gr hG h h0 hk hgo (aside_setCell w (smA ph.Wg) _) (h1.setSm 1) hd (by omega) (s' := 1) (m' := q) (by omega) (fun x' e => by subst e; exact .quit rfl (by simpa [deafBehind, semEvents] using hq)) ?_ ?_ (hm.lastUp (h.com.lt h0 hk) hlast) (.inl (by omega)) fun _ => .inr ⟨hmw, hrun'⟩
    · intro e he
      simp [semEvents] at he
      rcases he with rfl | rfl | rfl | rfl
      · exact .inl rfl
      · exact bk_cell _ _ rfl
      · exact bk_cell _ _ rfl
      · exact .inr (.inl rfl)
    · intro jx e he
      match jx, he with
      | 0, he => simp [semEvents] at he; subst he; exact .inl rfl
      | 1, _ => exact .inr (by simp [deafBehind, semEvents])
      | 2, _ => exact .inr (by simp [deafBehind, semEvents])
      | 3, he => simp [semEvents] at he; subst he; exact .inl rfl
      | jx + 4, he => simp [semEvents] at he
  · obtain ⟨g', w', es, hgo, ⟨rfl, rfl⟩, hg'⟩ := hstep w (RW.refl w)
    exact Wz hG h h0 hk hgo hd (by omega) htr fun x' e => by subst e; rw [h2]; exact .d4 rfl hg'
end
end Go.Dw.J
end
section
namespace Go.Dw.J
open Go.Dw Go.RowKit
open Go.Conc (G crowd Goes Deaf QuitsD woken awake woken_run woken_quitsD Aside Deaf_other Deaf_own aside_setCell semEvents)
open Go.ConcR (KK WgAt stA smA Payload DC0 Bk ofEvent_cell ofEvent_loc_mark bk_of_mute rd wr mk)
open Go.ConcN (RW AtR0 AtK1 AtD1 AtD2 AtD3 AtD4 WgLive Has RelBy PayAt sumTo sumTo_congr le_sumTo sumTo_upd upd upd_same upd_ne bk_cell)
open Go.CJ (CJ OkW Ok0)
set_option linter.unusedVariables false
set_option linter.unusedSimpArgs false
set_option linter.unusedSectionVars false
section
variable [Payload] {ph : Ph} {gs : Array Goroutine} {w w' : World} {t : Trace} {D : Nat → WS} {s v k : Nat} {gk g' : Goroutine} {es : Array Event} {x' : WS} {st sm st' sm' : Int}
theorem E0 (hG : Geo ph) (h : Sta ph gs w t D s v) (h0 : ph.s0 ≤ k) (hk : k < gs.size) (hd : Deaf t k = 0) (h7 : (D k).stage = 7) {m : Nat} (htr : (D k).tr = chain m) (hg : Goes ph.P false (RW ph.ty ph.Wg (D k).bx 1 0 0) DC0 (AtR0 ph.P ph.ty ph.Wg (D k).bx 1 0 1 (D k).val) m gk w) : WkStep ph gs w t D s v k gk := by
  obtain ⟨st, sm, h1, h2⟩ := h.md
  have hWlt := WgLive.lt h.com.live
  have hrcd := h.com.rcd k h0 hk (.inl (by omega))
  rcases Goes.cases hg with hstop | ⟨m', rfl, hstep⟩
  · obtain ⟨_, _, g', hgo, m₂, hk'⟩ := hstop w (RW.refl w)
    refine Ns hG h h0 hk (x' := { D k with stage := 6, tr := chain m₂ }) hgo (.refl _ w) h1 rfl rfl rfl rfl (by simp) ?_ hrcd (fun _ => ⟨t.size, RelBy.new hd _ _⟩) (fun op hop => ?_) (fun op hop e2 => ?_) (fun e he => ?_) (h2.counted (h.com.lt h0 hk) (by rw [σf_at h0 hk]; omega) (by rw [σf_at h0 hk]; omega) (by show 5 ≤ 6; omega)) (Lo.stage (by show 6 < _; omega)) fun e => .inl ⟨st, e ▸ h1⟩
    · rw [hd]; exact .k1 rfl hk'
    · obtain ⟨e, he, rfl⟩ := Go.Conc.mem_ofEvents hop
      simp at he; subst he
      exact ⟨rfl, fun x hx => by simp [mk, MemAct.ofEvent, MemAct.touch?] at hx⟩
    · obtain ⟨e, he, rfl⟩ := Go.Conc.mem_ofEvents hop
      simp at he; subst he
      simp [mk, MemAct.ofEvent] at e2
    · simp at he; subst he
      exact hWlt
  · obtain ⟨g', w', es, hgo, ⟨rfl, rfl⟩, hg'⟩ := hstep w (RW.refl w)
    refine Ns hG h h0 hk (x' := { D k with tr := chain m' }) hgo (.refl _ _) h1 rfl rfl rfl rfl (by show (D k).stage ≠ 8; omega) ?_ hrcd (fun e => absurd e (by show ¬ (D k).stage ≤ 6; omega)) (fun op hop => ?_) (fun op hop e2 => ?_) (fun e he => by simp at he) (h2.congr fun i hi => ?_) ?_ fun e => .inl ⟨st, e ▸ h1⟩
    · rw [hd]; show Sit _ _ _ (D k).stage _ _ _; rw [h7]; exact .r0 rfl hg'
    · obtain ⟨e, he, rfl⟩ := Go.Conc.mem_ofEvents hop
      simp at he
    · obtain ⟨e, he, rfl⟩ := Go.Conc.mem_ofEvents hop
      simp at he
    · by_cases e : i = k - ph.s0
      · subst e; rw [upd_same, σf_at h0 hk]
      · rw [upd_ne _ _ e]
    · show Lo ((D k).stage, chain m') _
      rw [htr]; exact Lo.kid (W7 m')
theorem Ed (hG : Geo ph) (h : Sta ph gs w t D s v) (h0 : ph.s0 ≤ k) (hk : k < gs.size) (hrun : gk.status = .running) (h1 : (D k).stage = 1) {m : Nat} (htr : (D k).tr = chain m) (hq : QuitsD ph.P m (Deaf t k) gk) : WkStep ph gs w t D s v k gk := by
  obtain ⟨st, sm, h2, h3⟩ := h.md
  cases m with
  | zero => rw [hq.1] at hrun; cases hrun
  | succ q =>
    rcases hq with ⟨hf, _⟩ | ⟨_, g', es, hmute, hstep, hq⟩
    · rw [hf] at hrun; cases hrun
    · have hbk : ∀ e ∈ es, Bk ph.Wg e := fun e he => bk_of_mute (hmute e he)
      refine Gr hG h h0 hk (hstep w) (.refl _ w) h2 rfl (by omega) (s' := 1) (m' := q) (by omega) (fun x' e => by subst e; exact .quit rfl hq) hbk (fun jx e he => .inl (Go.Conc.touch_mute (hmute e (Array.mem_of_getElem? he)))) (h3.congr fun i hi => ?_) (.inr ⟨h1.symm, htr⟩) fun e => .inl ⟨st, e ▸ h2⟩
      by_cases e : i = k - ph.s0
      · subst e; rw [upd_same, σf_at h0 hk, h1]
      · rw [upd_ne _ _ e]
theorem F8 (hG : Geo ph) (h : Sta ph gs w t D s v) (h1 : 1 ≤ k) (h0 : k < ph.s0) (hrun : gk.status = .running) {m : Nat} (htr : (D k).tr = chain m) (hq : QuitsD ph.P m (Deaf t k) gk) : WkStep ph gs w t D s v k gk := by
  obtain ⟨st, sm, h2, h3⟩ := h.md
  have hk : k < gs.size := Nat.lt_of_lt_of_le h0 h.com.szl
  cases m with
  | zero => rw [hq.1] at hrun; cases hrun
  | succ q =>
    rcases hq with ⟨hf, _⟩ | ⟨_, g', es, hmute, hstep, hq⟩
    · rw [hf] at hrun; cases hrun
    · have hst := h.com.old k h1 h0
      have hnb := h.com.nob k (.inl h0)
      refine ⟨g', w, es, { D k with tr := chain q }, hstep w, ⟨h.com.stepK hk (fun j hj => upd_ne D _ hj) rfl rfl (Nat.le_refl _) (fun b _ _ _ => rfl) (fun j _ b _ => rfl) id h.com.cells (fun j _ _ i _ => rfl) (fun _ => ?_) (fun _ _ => ?_) (fun h => by omega) (fun h => by omega) (fun h => by omega) (fun _ b => ?_) (fun b hb => ?_) ?_ (fun e he => Go.Conc.low_mute (hmute e he) _), st, sm, h2, ?_⟩, ?_, rfl, rfl, Nat.le_refl _, fun b _ _ _ _ => rfl, fun b hb => .inl hb, fun hx => .inl hx⟩
      · rw [upd_same, Deaf_own]; show Sit _ _ _ (D k).stage _ _ _; rw [hst]; exact .quit rfl hq
      · rw [upd_same]; exact hst
      · rw [upd_same]; exact hnb b
      · rw [upd_same] at hb; exact absurd hb (hnb b)
      · refine CJ.appMute (h.com.growCT (fun b hb => hb) fun b hb => .inl hb) hk (fun op hop => by obtain ⟨e, _, rfl⟩ := Go.Conc.mem_ofEvents hop; rfl) (fun op hop => by obtain ⟨e, he, rfl⟩ := Go.Conc.mem_ofEvents hop; exact Go.Conc.touch_mute (hmute e he)) (Nz (ph := ph) fun e he => bk_of_mute (hmute e he))
      · rw [show ((gs.map (woken ph.P gk g' w)).setIfInBounds k g').size = gs.size by simp, σf_old h0]
        exact h3
      · show Lo ((D k).stage, chain q) _
        rw [htr]; exact Lo.kid (W7 q)
end
end Go.Dw.J
end
section
namespace Go.Dw.J
open Go.Dw Go.RowKit
open Go.Conc (G crowd Goes Deaf QuitsD woken awake woken_run woken_quitsD Aside Deaf_other Deaf_own aside_setCell semEvents)
open Go.ConcR (KK WgAt stA smA Payload DC0 Bk ofEvent_cell ofEvent_loc_mark bk_of_mute rd wr mk)
open Go.ConcN (RW AtR0 AtK1 AtD1 AtD2 AtD3 AtD4 WgLive Has RelBy PayAt sumTo sumTo_congr le_sumTo sumTo_upd upd upd_same upd_ne bk_cell)
open Go.CJ (CJ OkW Ok0)
set_option linter.unusedVariables false
set_option linter.unusedSimpArgs false
set_option linter.unusedSectionVars false
section
variable [Payload] {ph : Ph} {gs : Array Goroutine} {w w' : World} {t : Trace} {D : Nat → WS} {s v k : Nat} {gk g' : Goroutine} {es : Array Event} {x' : WS} {A : World}
theorem Bd {D' : Nat → WS} {fn : FuncId} {pos : String} {e : Event} (hlo : ∀ b, b < ph.N0 → Seen A b → Seen ph.A0 b ∧ b ≠ ph.C ∧ b ≠ ph.Wg ∧ Ro A b) (hob : ∀ b, ph.N0 ≤ b → Seen A b → (D' k).ob b) (h : EvOk A e) : OkW (ShP ph) (OwnP ph D') (RdP ph) k { g := k, fn := fn, pos := pos, act := .ofEvent e } := by
  refine ⟨rfl, fun x hx => ?_⟩
  cases h with
  | read h =>
    rename_i a
    simp [MemAct.ofEvent, MemAct.touch?] at hx; subst hx
    rcases Nat.lt_or_ge a.block ph.N0 with h1 | h1
    · obtain ⟨h2, h3, h4, _⟩ := hlo _ h1 h
      refine .inr (.inr ⟨⟨a.block, rfl, ?_, h3, h2⟩, rfl, by simp⟩)
      unfold Ph.N0 at h1; omega
    · exact .inr (.inl ⟨.inl ⟨a.block, rfl, hob _ h1 h⟩, by simp⟩)
  | write h h2 =>
    rename_i a
    simp [MemAct.ofEvent, MemAct.touch?] at hx; subst hx
    rcases Nat.lt_or_ge a.block ph.N0 with h1 | h1
    · exact absurd (hlo _ h1 h).2.2.2 h2
    · exact .inr (.inl ⟨.inl ⟨a.block, rfl, hob _ h1 h⟩, by simp⟩)
  | obj h h2 =>
    rename_i r wr
    have e : MemAct.ofEvent ⟨.obj r, wr, false⟩ = .access ⟨.obj r, wr, false⟩ := by cases wr <;> rfl
    rw [e] at hx
    simp [MemAct.touch?] at hx; subst hx
    rcases Nat.lt_or_ge r ph.N0 with h1 | h1
    · exact absurd (hlo _ h1 h).2.2.2 h2
    · exact .inr (.inl ⟨.inl ⟨r, rfl, hob _ h1 h⟩, by simp⟩)
  | room => simp [MemAct.ofEvent, MemAct.touch?] at hx
theorem N7 {e : Event} {B : Nat} (hB : A.heap.size ≤ B) (h : EvOk A e) : (MemAct.ofEvent e).low B := by
  cases h with
  | read h => exact Nat.lt_of_lt_of_le h.1 hB
  | write h h2 => exact Nat.lt_of_lt_of_le h.1 hB
  | obj h h2 =>
    rename_i r wr
    have e : MemAct.ofEvent ⟨.obj r, wr, false⟩ = .access ⟨.obj r, wr, false⟩ := by cases wr <;> rfl
    rw [e]; exact Nat.lt_of_lt_of_le h.1 hB
  | room => trivial
theorem Hd {e : Event} {a : Addr} (h : EvOk A e) : MemAct.ofEvent e ≠ .mark (.release a) := by
  intro e2
  cases h with
  | read h => simp [MemAct.ofEvent] at e2
  | write h h2 => simp [MemAct.ofEvent] at e2
  | obj h h2 =>
    rename_i r wr
    cases wr <;> simp [MemAct.ofEvent] at e2
  | room => simp [MemAct.ofEvent] at e2
theorem Com.tell (h : Com ph gs w t D) (h0 : ph.s0 ≤ k) (hk : k < gs.size) (hgk : gs[k]? = some gk) (hob : x'.ob = (D k).ob) (hbx : x'.bx = (D k).bx) (hsit : Sit ph k x' x'.stage gk w (Deaf t k)) (hrcd : (x'.stage ≠ 8 ∨ g0 x'.A = 1) → Rec ph k x' w) (hrel : x'.stage ≤ 6 → ∃ r, RelBy (stA ph.Wg) t k r) : Com ph gs w t (upd D k x') := by
  have ob : ∀ j b, (upd D k x' j).ob b ↔ (D j).ob b := fun j b => by
    by_cases e : j = k
    · subst e; rw [upd_same, hob]
    · rw [upd_ne D _ e]
  have hs1 := h.s1
  refine ⟨h.s1, h.szl, h.szu, fun j h1 h2 => ?_, fun j h1 h2 => ?_, fun j hj b hb => h.nob j hj b ((ob j b).1 hb), fun j h1 h2 h3 => ?_, fun j h1 h2 h3 => ?_, fun j b hb => h.obl j b ((ob j b).1 hb), fun j j' b hne hb hb' => h.oba j j' b hne ((ob j b).1 hb) ((ob j' b).1 hb'), fun j h1 h2 => ?_, h.cells, h.live, h.vis0, h.os0, h.out0, h.growCT (fun b hb => by rw [hob]; exact hb) (fun b hb => .inl (by rw [← hob]; exact hb)), h.above, h.low, h.same⟩
  · by_cases e : j = k
    · subst e; rw [upd_same]; exact ⟨gk, hgk, hsit⟩
    · rw [upd_ne D _ e]; exact h.wk j h1 h2
  · rw [upd_ne D _ (by omega)]; exact h.old j h1 h2
  · by_cases e : j = k
    · subst e; rw [upd_same] at h3 ⊢; exact hrcd h3
    · rw [upd_ne D _ e] at h3 ⊢; exact h.rcd j h1 h2 h3
  · by_cases e : j = k
    · subst e; rw [upd_same] at h3; exact hrel h3
    · rw [upd_ne D _ e] at h3; exact h.rel j h1 h2 h3
  · rw [ob]
    by_cases e : j = k
    · subst e; rw [upd_same, hbx]; exact h.bxo _ h1 h2
    · rw [upd_ne D _ e]; exact h.bxo j h1 h2
end
end Go.Dw.J
end
section
namespace Go.Dw.J
open Go.Dw Go.RowKit
open Go.Conc (G crowd Goes Deaf QuitsD woken awake woken_run woken_quitsD Aside Deaf_other Deaf_own aside_setCell semEvents)
open Go.ConcR (KK WgAt stA smA Payload DC0 Bk ofEvent_cell ofEvent_loc_mark bk_of_mute rd wr mk)
open Go.ConcN (RW AtR0 AtK1 AtD1 AtD2 AtD3 AtD4 WgLive Has RelBy PayAt sumTo sumTo_congr le_sumTo sumTo_upd upd upd_same upd_ne bk_cell)
open Go.CJ (CJ OkW Ok0)
set_option linter.unusedVariables false
set_option linter.unusedSimpArgs false
set_option linter.unusedSectionVars false
theorem Lo.le {s s' : Nat} {t t' : Tree} (h : Lo (s', t') (s, t)) : s' ≤ s := by
  cases h with
  | left _ _ h => exact Nat.le_of_lt h
  | right _ h => exact Nat.le_refl _
section
variable [Payload] {ph : Ph} {gs : Array Goroutine} {w w' : World} {t : Trace} {D : Nat → WS} {s v k : Nat} {gk g' : Goroutine} {es : Array Event} {x' : WS} {A A' : World}
theorem Ec {α : Type} (f : Nat → α) (k : Nat) (x y : α) : upd (upd f k x) k y = upd f k y := by
  funext j
  by_cases e : j = k
  · subst e; rw [upd_same, upd_same]
  · rw [upd_ne _ _ e, upd_ne _ _ e, upd_ne _ _ e]
theorem Ee (hG : Geo ph) (h : Sta ph gs w t D s v) (h0 : ph.s0 ≤ k) (hk : k < gs.size) (hgk : gs[k]? = some gk) (hd : Deaf t k = 0) (h8 : (D k).stage = 8) (hS : StopW ph (D k).bx (D k).val gk (D k).A) : WkStep ph gs w t D s v k gk := by
  obtain ⟨st, sm, h1, h2⟩ := h.md
  obtain ⟨hg1, hrun, hall⟩ := hS
  have hr := h.com.rcd k h0 hk (.inr hg1)
  have hHas : Has (D k).bx 0 (D k).val w := by
    have := (hr.box h8).1
    unfold Has
    simp [World.cell?, this]
  obtain ⟨m, hm⟩ := hall w ⟨h.com.live, hHas⟩
  have hrec : Rec ph k { D k with stage := 7, tr := chain m } w := ⟨hr.sees, hr.rds, hr.noC, hr.noWg, hr.out, hr.len, hr.laid, hr.ob, fun e => by simp at e, fun e => by simp at e, hr.nobx, hr.low0⟩
  have hcom := h.com.tell (x' := { D k with stage := 7, tr := chain m }) h0 hk hgk rfl rfl (by rw [hd]; exact .r0 rfl hm) (fun _ => hrec) (fun e => by simp at e)
  have hsta : Sta ph gs w t (upd D k { D k with stage := 7, tr := chain m }) s v := ⟨hcom, st, sm, h1, by
    rw [σf_upd h0 hk]
    exact h2.counted (h.com.lt h0 hk) (by rw [σf_at h0 hk]; omega) (by rw [σf_at h0 hk]; omega) (by show 5 ≤ 7; omega)⟩
  have := E0 (k := k) (gk := gk) hG hsta h0 hk hd (by rw [upd_same]) (m := m) (by rw [upd_same]) (by rw [upd_same]; exact hm)
  obtain ⟨g', w', es, x', k1, k2, k3, k4, k5, k6, k7, k8, k9⟩ := this
  rw [Ec] at k2
  rw [upd_same] at k3 k7 k8
  refine ⟨g', w', es, x', k1, k2, ?_, k4, k5, k6, k7, k8, k9⟩
  have := Lo.le k3
  simp only at this
  exact Lo.stage (by omega)
theorem C5 (hG : Geo ph) (h : Sta ph gs w t D s v) (h0 : ph.s0 ≤ k) (hk : k < gs.size) (hd : Deaf t k = 0) (h8 : (D k).stage = 8) (hsees : Sees (D k).A w) (hrds : Rds ph.N0 (D k).A) (hC : ¬ Seen (D k).A ph.C) (hW : ¬ Seen (D k).A ph.Wg) (hg01 : g0 (D k).A = 0 ∨ g0 (D k).A = 1) (hob : ∀ b, ph.N0 ≤ b → Seen (D k).A b → (D k).ob b) (hl0 : ∀ b, b < ph.N0 → Seen (D k).A b → Seen ph.A0 b)
    (hgo : stepG ph.P false gk w = .go g' w' es) (hA' : Sees A' w') (htape : A'.tape = (D k).A.tape) (hT : Turns (D k).A w A' w') (hE : ∀ e ∈ es, EvOk A' e) {A1 : World} (hx : Ext A1 A') (hxt : A'.tape = A1.tape) {tr' : Tree} (hkid : Tree.Kid tr' (D k).tr)
    (hF : FitsW ph k { D k with tr := tr', A := A1, ob := fun b => (D k).ob b ∨ (w.heap.size ≤ b ∧ Seen A' b) } g' A1) : WkStep ph gs w t D s v k gk := by
  obtain ⟨st, sm, h1, h2⟩ := h.md
  have hs1 := h.com.s1
  have hCW := hG.CW
  have hWlt := WgLive.lt h.com.live
  have hN : ph.N0 ≤ w.heap.size := hWlt
  have hWg : w'.heap[ph.Wg]? = w.heap[ph.Wg]? := (hT.hid _ hWlt hW).1
  have hCc : w'.heap[ph.C]? = w.heap[ph.C]? := (hT.hid _ (by omega) hC).1
  have hwg' : WgAt ph.ty ph.Wg w' st sm := h1.of_block hWg
  have hrds' : Rds ph.N0 A' := hrds.turns hN hT
  have hsn : ∀ b, b < w.heap.size → Seen A' b → Seen (D k).A b := fun b hb hs => (hT.grow hs).resolve_right (by omega)
  have g01 : g0 A1 = g0 (D k).A := by unfold g0; rw [← hxt, htape]
  have hoth : ∀ j, j ≠ k → ∀ b, (D j).ob b → w'.heap[b]? = w.heap[b]? := fun j hj b hb => (hT.hid b (h.com.obl j b hb).2 fun hs => h.com.oba j k b hj hb (hob b (h.com.obl j b hb).1 hs)).1
  refine ⟨g', w', es, { D k with tr := tr', A := A1, ob := fun b => (D k).ob b ∨ (w.heap.size ≤ b ∧ Seen A' b) }, hgo, ⟨h.com.stepK hk (fun j hj => upd_ne D _ hj) hT.os hT.output hT.le (fun b hb _ _ => hrds.still hT hN hb) hoth (fun _ => ⟨st, sm, hwg'⟩) ?_ (fun j _ _ i _ => Go.ConcN.cell_of_block hCc _) (fun _ => ?_) (fun _ h => by omega) (fun _ h3 => ?_) (fun _ h3 => ?_) (fun _ => ?_) (fun h => by omega) (fun b hb => ?_) ?_ (fun e he => N7 hA'.size (hE e he)), st, sm, hwg', ?_⟩, ?_, hT.os, hT.output, hT.le, fun b hb _ _ hnb => ?_, fun b hb => hb.imp id fun h => h.1, fun ⟨st2, h3⟩ => ?_⟩
  · intro hn0
    obtain ⟨cs, h3, h4⟩ := h.com.cells hn0
    exact ⟨cs, hCc.trans h3, h4⟩
  · rw [upd_same, Deaf_own, hd]
    show Sit _ _ _ (D k).stage _ _ _
    rw [h8, Go.Conc.deafBehind_still fun e he => ?_]
    · refine .go hF (hA'.ext hx) (hrds'.ext' hx) (fun hs => (hT.hid _ (by omega) hC).2 ((Seen.ext hx).2 hs)) (fun hs => (hT.hid _ hWlt hW).2 ((Seen.ext hx).2 hs)) (by show g0 A1 = 0 ∨ g0 A1 = 1; rw [g01]; exact hg01) (fun b hb hs => ?_) (fun b hb hs => ?_)
      · have hs' := (Seen.ext hx).2 hs
        rcases hT.grow hs' with h3 | h3
        · exact .inl (hob b hb h3)
        · exact .inr ⟨h3, hs'⟩
      · exact hl0 b hb (hsn b (by omega) ((Seen.ext hx).2 hs))
    · have := Wf (hE e he) (Nat.le_refl _) (Shun := fun _ => False) fun l b h => h.elim
      exact ⟨this.1.2.1, this.1.2.2.1⟩
  · rw [upd_same] at h3 ⊢
    have hg1 : g0 (D k).A = 1 := by
      rcases h3 with h3 | h3
      · exact absurd h8 h3
      · rw [← g01]; exact h3
    have hr := h.com.rcd k h0 hk (.inr hg1)
    have hfr : ∀ b, b < (D k).AR.heap.size → ¬ Seen (D k).A b := fun b hb hs => by have := hr.fresh h8 b hs; omega
    refine ⟨hr.sees.still hT.os hT.output hT.le fun b hb => (hT.hid b (Nat.lt_of_lt_of_le hb.1 hr.sees.size) (hfr b hb.1)).1, hr.rds, hr.noC, hr.noWg, hr.out, hr.len, fun j v hj => (Go.ConcN.cell_of_block hCc _).trans (hr.laid j v hj), fun b hb hs => .inl (hr.ob b hb hs), fun _ b hs => ?_, fun _ => ?_, hr.nobx, hr.low0⟩
    · rcases hT.grow ((Seen.ext hx).2 hs) with h4 | h4
      · exact hr.fresh h8 b h4
      · exact Nat.le_trans hr.sees.size h4
    · obtain ⟨h4, h5⟩ := hr.box h8
      have h6 := hT.hid (D k).bx (Array.getElem?_eq_some_iff.1 h4).1 h5
      exact ⟨h6.1.trans h4, fun hs => h6.2 ((Seen.ext hx).2 hs)⟩
  · rw [upd_same] at h3
    have : (D k).stage ≤ 6 := h3
    omega
  · rw [upd_same]; exact .inl (h.com.bxo k h0 hk)
  · rw [upd_same] at hb
    rcases hb with hb | ⟨hb, hs⟩
    · exact ⟨(h.com.obl k b hb).1, Nat.lt_of_lt_of_le (h.com.obl k b hb).2 hT.le, fun j hj hb' => h.com.oba j k b hj hb' hb⟩
    · exact ⟨by omega, Nat.lt_of_lt_of_le hs.1 hA'.size, fun j hj hb' => by have := (h.com.obl j b hb').2; omega⟩
  · refine CJ.appW (Vy hG (fun j b hb => ?_) fun j j' b hne hb hb' => ?_) (h.com.growCT (fun b hb => .inl hb) fun b hb => hb.imp id fun h => h.1) h0 hk (fun op hop => ?_) fun op hop => ?_
    · by_cases e : j = k
      · subst e; rw [upd_same] at hb
        rcases hb with hb | hb
        · exact (h.com.obl _ b hb).1
        · omega
      · rw [upd_ne D _ e] at hb; exact (h.com.obl _ b hb).1
    · have key : ∀ j b, (upd D k { D k with tr := tr', A := A1, ob := fun b => (D k).ob b ∨ (w.heap.size ≤ b ∧ Seen A' b) } j).ob b → (D j).ob b ∨ (j = k ∧ w.heap.size ≤ b) := fun j b hb => by
        by_cases e : j = k
        · subst e; rw [upd_same] at hb; exact hb.imp id fun h => ⟨rfl, h.1⟩
        · rw [upd_ne D _ e] at hb; exact .inl hb
      rcases key _ _ hb with h3 | ⟨h3, h4⟩ <;> rcases key _ _ hb' with h5 | ⟨h5, h6⟩
      · exact h.com.oba j j' b hne h3 h5
      · have := (h.com.obl j b h3).2; omega
      · have := (h.com.obl j' b h5).2; omega
      · omega
    · obtain ⟨e, he, rfl⟩ := Go.Conc.mem_ofEvents hop
      refine Bd (fun b hb hs => ?_) (fun b hb hs => ?_) (hE e he)
      · have h3 := hsn b (by omega) hs
        exact ⟨hl0 b hb h3, fun e => hC (e ▸ h3), fun e => hW (e ▸ h3), (hrds' b hb).resolve_right fun h => h hs⟩
      · rw [upd_same]
        rcases hT.grow hs with h4 | h4
        · exact .inl (hob b hb h4)
        · exact .inr ⟨h4, hs⟩
    · obtain ⟨e, he, rfl⟩ := Go.Conc.mem_ofEvents hop
      exact Hd (hE e he)
  · rw [show ((gs.map (woken ph.P gk g' w')).setIfInBounds k g').size = gs.size by simp, σf_upd h0 hk]
    refine h2.congr fun i hi => ?_
    by_cases e : i = k - ph.s0
    · subst e; rw [upd_same, σf_at h0 hk]
    · rw [upd_ne _ _ e]
  · exact Lo.kid hkid
  · rcases Nat.lt_or_ge b ph.N0 with h3 | h3
    · exact hrds.still hT hN h3
    · exact (hT.hid b hb fun hs => hnb (hob b h3 hs)).1
  · exact .inl ⟨st, (h3.unique hwg').2 ▸ h1⟩
end
end Go.Dw.J
end
section
namespace Go.Dw.J
open Go.Dw Go.RowKit
open Go.Conc (G crowd Goes Deaf QuitsD woken awake woken_run woken_quitsD Aside Deaf_other Deaf_own aside_setCell semEvents)
open Go.ConcR (KK WgAt stA smA Payload DC0 Bk ofEvent_cell ofEvent_loc_mark bk_of_mute rd wr mk)
open Go.ConcN (RW AtR0 AtK1 AtD1 AtD2 AtD3 AtD4 WgLive Has RelBy PayAt sumTo sumTo_congr le_sumTo sumTo_upd upd upd_same upd_ne bk_cell)
open Go.CJ (CJ OkW Ok0)
set_option linter.unusedVariables false
set_option linter.unusedSimpArgs false
set_option linter.unusedSectionVars false
theorem Pq {cs : Array Value} {sz k n : Nat} {vs : List Value} (h : cs.size = n * sz) (hl : vs.length = sz) (hk : k < n) : (putRow cs sz k vs).size = n * sz := by
  have : (k + 1) * sz ≤ n * sz := Nat.mul_le_mul_right _ hk
  rw [Nat.add_mul, Nat.one_mul] at this
  have e : (cs.toList.take (k * sz)).length = k * sz := by rw [List.length_take, Array.length_toList, h]; exact Nat.min_eq_left (by omega)
  unfold putRow
  rw [List.size_toArray, List.length_append, List.length_append, e, hl, List.length_drop, Array.length_toList, h]
  omega
theorem R8 {cs : Array Value} {sz k n : Nat} {vs : List Value} (h : cs.size = n * sz) (hl : vs.length = sz) (hk : k < n) {j : Nat} (hj : j < sz) : (putRow cs sz k vs)[k * sz + j]? = vs[j]? := by
  have : (k + 1) * sz ≤ n * sz := Nat.mul_le_mul_right _ hk
  rw [Nat.add_mul, Nat.one_mul] at this
  have e : (cs.toList.take (k * sz)).length = k * sz := by rw [List.length_take, Array.length_toList, h]; exact Nat.min_eq_left (by omega)
  unfold putRow
  rw [List.getElem?_toArray, List.append_assoc, List.getElem?_append_right (by rw [e]; omega), e, Nat.add_sub_cancel_left, List.getElem?_append_left (by omega)]
theorem L8 {cs : Array Value} {sz k n : Nat} {vs : List Value} (h : cs.size = n * sz) (hl : vs.length = sz) (hk : k < n) {i j : Nat} (hj : j < sz) (hi : i ≠ k) : (putRow cs sz k vs)[i * sz + j]? = cs[i * sz + j]? := by
  have : (k + 1) * sz ≤ n * sz := Nat.mul_le_mul_right _ hk
  rw [Nat.add_mul, Nat.one_mul] at this
  have e : (cs.toList.take (k * sz)).length = k * sz := by rw [List.length_take, Array.length_toList, h]; exact Nat.min_eq_left (by omega)
  unfold putRow
  rw [List.getElem?_toArray, List.append_assoc]
  rcases Nat.lt_or_gt_of_ne hi with h1 | h1
  · have h2 : (i + 1) * sz ≤ k * sz := Nat.mul_le_mul_right _ h1
    rw [Nat.add_mul, Nat.one_mul] at h2
    rw [List.getElem?_append_left (by rw [e]; omega), List.getElem?_take, if_pos (by omega)]
    simp
  · have h2 : (k + 1) * sz ≤ i * sz := Nat.mul_le_mul_right _ h1
    rw [Nat.add_mul, Nat.one_mul] at h2
    rw [List.getElem?_append_right (by rw [e]; omega), e, List.getElem?_append_right (by omega), List.getElem?_drop]
    rw [show k * sz + sz + (i * sz + j - k * sz - vs.length) = i * sz + j by omega]
    simp
section
variable [Payload] {ph : Ph} {gs : Array Goroutine} {w w' : World} {t : Trace} {D : Nat → WS} {s v k : Nat} {gk g' : Goroutine} {es : Array Event} {x' : WS} {A A' : World}
theorem F9 (hG : Geo ph) (h : Sta ph gs w t D s v) (h0 : ph.s0 ≤ k) (hk : k < gs.size) (hd : Deaf t k = 0) (h8 : (D k).stage = 8) (hsees : Sees (D k).A w) (hrds : Rds ph.N0 (D k).A) (hC : ¬ Seen (D k).A ph.C) (hW : ¬ Seen (D k).A ph.Wg) (hob : ∀ b, ph.N0 ≤ b → Seen (D k).A b → (D k).ob b) (hl0 : ∀ b, b < ph.N0 → Seen (D k).A b → Seen ph.A0 b)
    (hgo : stepG ph.P false gk w = .go g' w' es) (hA' : Sees A' w') (hS : RowStep ph.C ph.n ph.sz (k - ph.s0) ph.TT (ph.Out (k - ph.s0)) (D k).bx (D k).val Payload.ety (D k).A w A' w' es) {A1 : World} (hx : Ext A1 A') (hxt : A'.tape = A1.tape) {tr' : Tree} (hkid : Tree.Kid tr' (D k).tr)
    (hF : FitsW ph k { D k with tr := tr' } g' A1) : WkStep ph gs w t D s v k gk := by
  obtain ⟨st, sm, h1, h2⟩ := h.md
  have hs1 := h.com.s1
  have hCW := hG.CW
  have hWlt := WgLive.lt h.com.live
  have hlt := h.com.lt h0 hk
  have hN : ph.N0 ≤ w.heap.size := hWlt
  obtain ⟨cs, vs, hc1, hc2, hvl, hout, rfl⟩ := hS.row
  have hnew := hS.new
  subst hnew
  have hblk : ∀ b, b ≠ ph.C → (w.setRow ph.C (putRow cs ph.sz (k - ph.s0) vs)).heap[b]? = w.heap[b]? := fun b hb => setRow_other _ _ _ _ hb
  have hCn := setRow_heap w ph.C cs (putRow cs ph.sz (k - ph.s0) vs) ph.TT (0, 0) hc1
  have hsz : (w.setRow ph.C (putRow cs ph.sz (k - ph.s0) vs)).heap.size = w.heap.size := size_setRow _ _ _
  have hwg' : WgAt ph.ty ph.Wg (w.setRow ph.C (putRow cs ph.sz (k - ph.s0) vs)) st sm := h1.of_block (hblk _ (by omega))
  have nos : ∀ b, ¬ Seen A1 b := fun b hs => Rn ((Seen.ext hx).2 hs)
  have g1 : g0 A1 = 1 := by unfold g0; rw [← hxt]; rfl
  have hbxl : (D k).bx < w.heap.size := (h.com.obl k _ (h.com.bxo k h0 hk)).2
  have hbxN := (h.com.obl k _ (h.com.bxo k h0 hk)).1
  have hbxw : w.heap[(D k).bx]? = some (.cells #[(D k).val] Payload.ety (0, 0)) := by
    have h3 := hsees.vis _ (Array.getElem?_eq_some_iff.1 hS.box).1
    rw [hS.box] at h3
    rcases h3 with h3 | h3 | ⟨c, T, fr, h3, h4⟩
    · exact h3.symm
    · simp [pz] at h3
    · simp [ro] at h3
      obtain ⟨rfl, _, h5⟩ := h3
      simp at h5
  have hnC : ∀ b, ph.N0 ≤ b → b ≠ ph.C := fun b hb e => by unfold Ph.N0 at hb; omega
  refine ⟨g', _, es, { D k with tr := tr', A := A1, AR := hideB (D k).A (D k).bx, row := vs }, hgo, ⟨h.com.stepK hk (fun j hj => upd_ne D _ hj) rfl rfl (Nat.le_of_eq hsz.symm) (fun b _ hb _ => hblk b hb) (fun j _ b hb => hblk b (hnC b (h.com.obl j b hb).1)) (fun _ => ⟨st, sm, hwg'⟩) (fun _ => ⟨_, hCn, Pq hc2 hvl hlt⟩) (fun j hj hj0 i hi => ?_) (fun _ => ?_) (fun _ h => by omega) (fun _ h3 => ?_) (fun _ h3 => ?_) (fun _ => ?_) (fun h => by omega) (fun b hb => ?_) ?_ (fun e he => ?_), st, sm, hwg', ?_⟩, Lo.kid hkid, rfl, rfl, Nat.le_of_eq hsz.symm, fun b _ hb _ _ => hblk b hb, fun b hb => .inl hb, fun ⟨st2, h3⟩ => .inl ⟨st, (h3.unique hwg').2 ▸ h1⟩⟩
  · rw [cell_setRow_same w ph.C _ cs _ ph.TT (0, 0) hc1, L8 hc2 hvl hlt hi (by omega)]
    simp [World.cell?, hc1]
  · rw [upd_same, Deaf_own, hd]
    show Sit _ _ _ (D k).stage _ _ _
    rw [h8, Go.Conc.deafBehind_still fun e he => ?_]
    · exact .go hF (hA'.ext hx) (fun b _ => .inr (nos b)) (nos _) (nos _) (.inr g1) (fun b _ hs => absurd hs (nos b)) fun b _ hs => absurd hs (nos b)
    · obtain ⟨j, _, rfl⟩ := hS.evs e he
      exact ⟨by simp, by simp⟩
  · rw [upd_same]
    have hsn : ∀ b, Seen (hideB (D k).A (D k).bx) b → Seen (D k).A b ∧ b ≠ (D k).bx := fun b hs => Jy hs
    refine ⟨(Hh hsees _).still rfl rfl (Nat.le_of_eq hsz.symm) fun b hb => hblk b fun e => hC (e ▸ (hsn b hb).1), fun b hb => ?_, fun hs => hC (hsn _ hs).1, fun hs => hW (hsn _ hs).1, hout, hvl, fun j v hj => ?_, fun b hb hs => hob b hb (hsn b hs).1, fun _ b hs => absurd hs (nos b), fun _ => ⟨(hblk _ (hnC _ hbxN)).trans hbxw, nos _⟩, fun hs => (hsn _ hs).2 rfl, fun b hb hs => hl0 b hb (hsn b hs).1⟩
    · rcases hrds b hb with h4 | h4
      · refine .inl ?_
        obtain ⟨c, T, e, h5⟩ := h4
        exact ⟨c, T, (Kb (by omega)).trans e, h5⟩
      · exact .inr fun hs => h4 (hsn b hs).1
    · have hj' : j < ph.sz := by rw [← hvl]; exact (List.getElem?_eq_some_iff.1 hj).1
      rw [cell_setRow_same w ph.C _ cs _ ph.TT (0, 0) hc1, R8 hc2 hvl hlt hj']
      exact hj
  · rw [upd_same] at h3
    have : (D k).stage ≤ 6 := h3
    omega
  · rw [upd_same]; exact h.com.bxo k h0 hk
  · rw [upd_same] at hb
    exact ⟨(h.com.obl k b hb).1, by rw [hsz]; exact (h.com.obl k b hb).2, fun j hj hb' => h.com.oba j k b hj hb' hb⟩
  · have key : ∀ j b, (upd D k { D k with tr := tr', A := A1, AR := hideB (D k).A (D k).bx, row := vs } j).ob b → (D j).ob b := fun j b hb => by
      by_cases e : j = k
      · subst e; rw [upd_same] at hb; exact hb
      · rw [upd_ne D _ e] at hb; exact hb
    refine CJ.appW (Vy hG (fun j b hb => (h.com.obl j b (key j b hb)).1) fun j j' b hne hb hb' => h.com.oba j j' b hne (key _ _ hb) (key _ _ hb')) (h.com.growCT (fun b hb => hb) fun b hb => .inl hb) h0 hk (fun op hop => ?_) fun op hop e2 => ?_
    · obtain ⟨e, he, rfl⟩ := Go.Conc.mem_ofEvents hop
      obtain ⟨j, hj, rfl⟩ := hS.evs e he
      refine ⟨rfl, fun x hx => ?_⟩
      simp [MemAct.ofEvent, MemAct.touch?] at hx; subst hx
      exact .inr (.inl ⟨.inr ⟨j, hj, rfl⟩, by simp⟩)
    · obtain ⟨e, he, rfl⟩ := Go.Conc.mem_ofEvents hop
      obtain ⟨j, hj, rfl⟩ := hS.evs e he
      simp [MemAct.ofEvent] at e2
  · obtain ⟨j, hj, rfl⟩ := hS.evs e he
    show ph.C < _
    rw [hsz]; omega
  · rw [show ((gs.map (woken ph.P gk g' (w.setRow ph.C (putRow cs ph.sz (k - ph.s0) vs)))).setIfInBounds k g').size = gs.size by simp, σf_upd h0 hk]
    refine h2.congr fun i hi => ?_
    by_cases e : i = k - ph.s0
    · subst e; rw [upd_same, σf_at h0 hk]
    · rw [upd_ne _ _ e]
end
end Go.Dw.J
end
section
namespace Go.Dw.J
open Go.Dw Go.RowKit
open Go.Conc (G crowd Goes Deaf QuitsD)
open Go.ConcR (Payload)
set_option linter.unusedVariables false
set_option linter.unusedSimpArgs false
set_option linter.unusedSectionVars false
section
variable [Payload] {ph : Ph} {gs : Array Goroutine} {w : World} {t : Trace} {D : Nat → WS} {s v k : Nat} {gk : Goroutine}
theorem C4 (hG : Geo ph) (hn : ph.n < 2147483648) (h : Sta ph gs w t D s v) (h1 : 1 ≤ k) (hk : k < gs.size) (hgk : gs[k]? = some gk) (hrun : gk.status = .running) : WkStep ph gs w t D s v k gk := by
  obtain ⟨g, hg, hsit⟩ := h.com.wk k h1 hk
  obtain rfl : gk = g := by rw [hgk] at hg; exact Option.some.inj hg
  rcases Nat.lt_or_ge k ph.s0 with hold | h0
  · have hst := h.com.old k h1 hold
    rw [hst] at hsit
    cases hsit with
    | quit e hq => exact F8 hG h h1 hold hrun e hq
  · generalize hst : (D k).stage = st at hsit
    generalize hd : Deaf t k = d at hsit
    cases hsit with
    | go hF h2 h3 h4 h5 h6 h7 h8 =>
      unfold FitsW at hF
      cases htr : (D k).tr with
      | stop => rw [htr] at hF; exact Ee hG h h0 hk hgk hd hst hF
      | node kids =>
        rw [htr] at hF
        obtain ⟨_, hF⟩ := hF
        obtain ⟨g', A', w', es, k1, k2, k3, A1, k4, k5, k6⟩ := hF w h2 fun _ => h.com.cells
        have hkid : Tree.Kid (kids w) (D k).tr := ⟨kids, w, htr, rfl⟩
        rcases k3 with ⟨e1, e2, e3⟩ | e1
        · exact C5 hG h h0 hk hd hst h2 h3 h4 h5 h6 h7 h8 k1 k2 e1 e2 e3 k4 k5 hkid k6
        · exact F9 hG h h0 hk hd hst h2 h3 h4 h5 h7 h8 k1 k2 e1 k4 k5 hkid k6
    | r0 e h2 => exact E0 hG h h0 hk hd hst e h2
    | k1 e h2 => exact Oi hG h h0 hk hd hst e h2
    | d1 e h2 => exact Oe hG hn h h0 hk hd hst e h2
    | d2 e h2 => exact Of hG h h0 hk hd hst e h2
    | d3 e h2 => exact Og hG h h0 hk hd hst e h2
    | d4 e h2 => exact Oh hG h h0 hk hd hst e h2
    | quit e hq => exact Ed hG h h0 hk hrun hst e (hd ▸ hq)
end
end Go.Dw.J
end
section
namespace Go.Dw.J
open Go.Dw Go.RowKit
open Go.Conc (G crowd Goes Deaf QuitsD awake awake_of crowd_pick runT_crowd_go woken woken_run Deaf_other)
open Go.ConcR (Payload WgAt)
open Go.ConcN (upd upd_same upd_ne)
set_option linter.unusedVariables false
set_option linter.unusedSimpArgs false
set_option linter.unusedSectionVars false
def dOf (s : Nat) : Nat := if s = 1 ∨ s = 4 ∨ s = 9 then 0 else 1
def g1 (A : World) : Nat := A.tape 1 .zeroSizeEq
section
variable [Payload]
structure PInv (ph : Ph) (g : Goroutine) (A : World) (gs : Array Goroutine) (w : World) (t : Trace) (D : Nat → WS) : Prop where
  at0 : gs[0]? = some g
  sta : Sta ph gs w t D (g0 A) (g1 A)
  sees : Sees A w
  rds : Rds ph.N0 A
  noC : ¬ Seen A ph.C
  noWg : ¬ Seen A ph.Wg
  low0 : ∀ b, b < ph.N0 → Seen A b → Seen ph.A0 b
  mob : ∀ k b, (D k).ob b → ¬ Seen A b
  num : (g0 A ≤ 3 → gs.size = ph.s0) ∧ (g0 A = 4 → gs.size = ph.s0 + g1 A) ∧ (5 ≤ g0 A → gs.size = ph.s0 + ph.n)
  deaf : Deaf t 0 = dOf (g0 A)
variable {ph : Ph} {g : Goroutine} {A : World}
def fam (D : Nat → WS) (k : Nat) : Sz := ((D k).stage, (D k).tr)
theorem PInv.other {gs : Array Goroutine} {w : World} {t : Trace} {D : Nat → WS} (I : PInv ph g A gs w t D) {k : Nat} (h1 : 1 ≤ k) (hk : k < gs.size) {gk g' ga : Goroutine} {w' : World} {es : Array Event} {x' : WS} (hga : ((gs.map (woken ph.P gk g' w')).setIfInBounds k g')[0]? = some ga)
    (hsta : Sta ph ((gs.map (woken ph.P gk g' w')).setIfInBounds k g') w' (t ++ MemOp.ofEvents k gk.frame.fn gk.frame.place es) (upd D k x') (g0 A) (g1 A)) (ho : w'.os = w.os) (hp : w'.output = w.output) (hs : w.heap.size ≤ w'.heap.size)
    (hb : ∀ b, b < w.heap.size → b ≠ ph.C → b ≠ ph.Wg → ¬ (D k).ob b → w'.heap[b]? = w.heap[b]?) (hob : ∀ b, x'.ob b → (D k).ob b ∨ w.heap.size ≤ b) : PInv ph ga A ((gs.map (woken ph.P gk g' w')).setIfInBounds k g') w' (t ++ MemOp.ofEvents k gk.frame.fn gk.frame.place es) (upd D k x') := by
  refine ⟨hga, hsta, I.sees.still ho hp hs fun b hse => hb b (Nat.lt_of_lt_of_le hse.1 I.sees.size) (fun e => I.noC (e ▸ hse)) (fun e => I.noWg (e ▸ hse)) fun h => I.mob k b h hse, I.rds, I.noC, I.noWg, I.low0, fun j b hb' hse => ?_, by simpa using I.num, ?_⟩
  · by_cases e : j = k
    · subst e
      rw [upd_same] at hb'
      rcases hob b hb' with h | h
      · exact I.mob _ b h hse
      · have := hse.1; have := I.sees.size; omega
    · rw [upd_ne D _ e] at hb'
      exact I.mob j b hb' hse
  · rw [Deaf_other t (g' := k) (by omega) _ (fun op hop => by obtain ⟨e, _, rfl⟩ := Go.Conc.mem_ofEvents hop; rfl)]
    exact I.deaf
end
end Go.Dw.J
end
section
namespace Go.Dw.J
open Go.Dw Go.RowKit
open Go.Conc (G crowd Goes Deaf QuitsD awake awake_of crowd_pick runT_crowd_go woken woken_run Deaf_other)
open Go.ConcR (Payload WgAt)
open Go.ConcN (upd upd_same upd_ne)
set_option linter.unusedVariables false
set_option linter.unusedSimpArgs false
set_option linter.unusedSectionVars false
section
variable [Payload] {ph : Ph} {g : Goroutine} {A : World}
theorem N9 {D : Nat → WS} {k N : Nat} {x' : WS} (hk : k < N) (h : Lo (x'.stage, x'.tr) ((D k).stage, (D k).tr)) : FamR Lo N (fam (upd D k x')) (fam D) :=
  ⟨k, hk, by unfold fam; rw [upd_same]; exact h, fun j hj => by unfold fam; rw [upd_ne D _ hj]⟩
theorem Fm {gs : Array Goroutine} {w : World} {t : Trace} {D : Nat → WS} {s v : Nat} (h : Sta ph gs w t D s v) (d : Nat) : Sta ph gs (w.at d) t D s v := by
  have c := h.com
  refine ⟨⟨c.s1, c.szl, c.szu, fun k h1 h2 => ?_, c.old, c.nob, fun k h1 h2 h3 => ?_, c.rel, c.obl, c.oba, c.bxo, c.cells, c.live, c.vis0, c.os0, c.out0, c.ct, c.above, c.low, c.same⟩, h.md⟩
  · obtain ⟨g, hg, hs⟩ := c.wk k h1 h2
    exact ⟨g, hg, hs.other (w' := w.at d) rfl rfl (Nat.le_refl _) (fun _ _ _ _ => rfl) (fun _ _ _ _ => rfl) id fun _ _ => rfl⟩
  · exact (c.rcd k h1 h2 h3).other (w' := w.at d) rfl rfl (Nat.le_refl _) (fun _ _ _ _ => rfl) (fun _ _ _ _ => rfl) (fun _ _ _ => rfl) fun _ => rfl
theorem L6 {gs : Array Goroutine} {w : World} {t : Trace} {D : Nat → WS} (I : PInv ph g A gs w t D) (d : Nat) : PInv ph g A gs (w.at d) t D :=
  ⟨I.at0, Fm I.sta d, G1 I.sees d, I.rds, I.noC, I.noWg, I.low0, I.mob, I.num, I.deaf⟩
theorem W8 {gs : Array Goroutine} {w : World} {t : Trace} {D : Nat → WS} (h : Com ph gs w t D) (hg : gs[0]? = some g) (ha : awake g) : ∀ x ∈ gs, awake x := by
  intro x hx
  obtain ⟨i, hi, rfl⟩ := Array.mem_iff_getElem.1 hx
  rcases Nat.eq_zero_or_pos i with rfl | hpos
  · have : gs[0] = g := by simpa [Array.getElem?_eq_getElem hi] using hg
    rw [this]; exact ha
  · obtain ⟨y, hy, hs⟩ := h.wk i hpos hi
    have : gs[i] = y := by simpa [Array.getElem?_eq_getElem hi] using hy
    rw [this]
    exact awake_of (hs.status.elim .inl fun h => .inr (.inr h.2))
theorem B7 (hG : Geo ph) (hn : ph.n < 2147483648) (hr : g.status = .running) (h : ∀ gs w sl t D, PInv ph g A gs w t D → Next0 ph.P ph.Post gs w sl t) : ∀ gs w sl t D, PInv ph g A gs w t D → Runs ph.P ph.Post (crowd gs w sl) t := by
  have key : ∀ (N : Nat) (F : Nat → Sz), Acc (FamR Lo N) F → ∀ gs w sl t D, fam D = F → gs.size = N → PInv ph g A gs w t D → Runs ph.P ph.Post (crowd gs w sl) t := by
    intro N F hF
    induction hF with
    | intro F _ ih =>
      intro gs w sl t D hD hN I
      obtain ⟨i, x, d, sl', hi, hg, hst⟩ := crowd_pick (P := ph.P) (w := w) (sl := sl) (W8 I.sta.com I.at0 (awake_of (.inl hr))) ⟨0, g, I.at0, hr⟩
      have I' := L6 I d
      rcases Nat.eq_zero_or_pos i with rfl | hpos
      · exact Vf hst (h gs (w.at d) sl' t D I')
      · have hlt : i < gs.size := (Array.getElem?_eq_some_iff.1 hi).1
        have hi0 : (i == 0) = false := by simp; omega
        obtain ⟨g', w', es, x', k1, k2, k3, k4, k5, k6, k7, k8, k9⟩ := C4 hG hn I'.sta hpos hlt hi hg
        have hrunT := runT_crowd_go (P := ph.P) (sl := sl') (i := i) hi (by rw [hi0]; exact k1)
        refine Runs.step (hst.trans hrunT) (ih (fam (upd D i x')) (hD ▸ N9 (hN ▸ hlt) k3) _ _ _ _ _ rfl (by simp [hN]) (I'.other hpos hlt ?_ k2 k4 k5 k6 k7 k8))
        have hne : i ≠ 0 := by omega
        rw [Array.getElem?_setIfInBounds_ne hne, Array.getElem?_map, I.at0]
        simp [woken_run hr]
  exact fun gs w sl t D I => key gs.size (fam D) (He Lo Bz gs.size _) gs w sl t D rfl rfl I
end
end Go.Dw.J
end
section
namespace Go.Dw.J
open Go.Dw Go.RowKit
open Go.Conc (G crowd Goes Deaf QuitsD awake awake_of crowd_pick runT_crowd_go woken woken_run Deaf_other)
open Go.ConcR (Payload WgAt KK stA smA rd wr mk)
open Go.ConcN (upd upd_same upd_ne)
set_option linter.unusedVariables false
set_option linter.unusedSimpArgs false
set_option linter.unusedSectionVars false
def setT (A : World) (s v : Nat) : World := { A with tape := mkT [s, v] }
structure Fin (ph : Ph) (A' w : World) : Prop where
  tape : A'.tape = mkT []
  sees : Sees A' w
  os : A'.os = ph.A0.os
  output : A'.output = ph.A0.output
  same : ∀ b, b < ph.Wg → b ≠ ph.C → w.heap[b]? = ph.W0.heap[b]?
  low : ∀ b, b < ph.Wg → b ≠ ph.C → A'.heap[b]? = ph.A0.heap[b]?
  noWg : ¬ Seen A' ph.Wg
  size : ph.Wg < A'.heap.size
  rows : ∃ vss : List (List Value), vss.length = ph.n ∧ (∀ i vs, vss[i]? = some vs → vs.length = ph.sz ∧ ph.Out i vs A') ∧ (ph.n ≠ 0 → A'.heap[ph.C]? = some (.cells vss.flatten.toArray ph.TT (0, 0)))
inductive SpP (ph : Ph) (A w A' w' : World) (es : Array Event) : Prop
  | disable : g0 A = 1 → A' = setT A 2 0 → w' = w → es = #[mk .disable] → SpP ph A w A' w' es
  | add : g0 A = 2 → A' = setT A 3 0 → w' = w.setCell (stA ph.Wg) (.int .u64 (ph.n * KK)) → es = #[rd (stA ph.Wg), wr (stA ph.Wg)] → SpP ph A w A' w' es
  | read : g0 A = 3 → A' = A → w' = w → es = #[mk (.read (smA ph.Wg))] → SpP ph A w A' w' es
  | enable : g0 A = 3 → A' = setT A 4 0 → w' = w → es = #[mk .enable] → SpP ph A w A' w' es
  | disable2 : g0 A = 4 → g1 A = ph.n → A' = setT A 5 ph.n → w' = w → es = #[mk .disable] → SpP ph A w A' w' es
  | load0 : g0 A = 5 → WgAt ph.ty ph.Wg w 0 0 → A' = setT A 8 0 → w' = w → es = #[rd (stA ph.Wg)] → SpP ph A w A' w' es
  | load (v : Nat) : g0 A = 5 → v ≤ g1 A → WgAt ph.ty ph.Wg w (v * KK) 0 → A' = setT A 5 v → w' = w → es = #[rd (stA ph.Wg)] → SpP ph A w A' w' es
  | hit (v : Nat) : g0 A = 5 → 1 ≤ v → WgAt ph.ty ph.Wg w (v * KK) 0 → A' = setT A 6 0 → w' = w.setCell (stA ph.Wg) (.int .u64 (v * KK + 1)) → es = #[rd (stA ph.Wg), wr (stA ph.Wg)] → SpP ph A w A' w' es
  | write : g0 A = 6 → A' = A → w' = w → es = #[mk (.write (smA ph.Wg))] → SpP ph A w A' w' es
  | load2 : g0 A = 8 → A' = A → w' = w → es = #[rd (stA ph.Wg)] → SpP ph A w A' w' es
  | enable2 : g0 A = 8 → A' = setT A 9 0 → w' = w → es = #[mk .enable] → SpP ph A w A' w' es
  | acquire : g0 A = 9 → Fin ph A' w → w' = w → es = #[mk (.acquire (stA ph.Wg))] → SpP ph A w A' w' es
end Go.Dw.J
end
section
namespace Go.Dw.J
open Go.Dw Go.RowKit
open Go.Conc (G crowd Goes Deaf QuitsD awake awake_of crowd_pick runT_crowd_go woken woken_run Deaf_other Deaf_own Aside)
open Go.ConcR (Payload WgAt KK stA smA rd wr mk)
open Go.ConcN (upd upd_same upd_ne WgLive)
open Go.CJ (CJ OkW Ok0)
set_option linter.unusedVariables false
set_option linter.unusedSimpArgs false
set_option linter.unusedSectionVars false
section
variable [Payload] {ph : Ph} {g g' : Goroutine} {A A' : World} {gs : Array Goroutine} {w w' : World} {t : Trace} {D : Nat → WS} {es : Array Event}
theorem Bc {D' : Nat → WS} {N : Nat} {fn : FuncId} {pos : String} {e : Event} (hG : Geo ph) (hlo : ∀ b, b < ph.N0 → Seen A b → Seen ph.A0 b ∧ b ≠ ph.C ∧ b ≠ ph.Wg ∧ Ro A b) (hob : ∀ k b, (D' k).ob b → ph.N0 ≤ b ∧ ¬ Seen A b) (h : EvOk A e) : Ok0 ph.s0 (ShP ph) (OwnP ph D') (RdP ph) N { g := 0, fn := fn, pos := pos, act := .ofEvent e } := by
  have hCW := hG.CW
  have sh : ∀ l b, inBlk b l → Seen A b → ¬ ShP ph l := fun l b hb hs h => by
    rcases h with h | h
    · have h1 := hG.shun l b h hb
      exact h1.2 (hlo b (by unfold Ph.N0; omega) hs).1
    · cases J3 hb h
      exact (hlo _ (by unfold Ph.N0; omega) hs).2.2.1 rfl
  have own : ∀ l b, inBlk b l → Seen A b → ∀ k, ¬ OwnP ph D' k l := fun l b hb hs k h => by
    rcases h with ⟨b', h1, h2⟩ | ⟨j, h1, h2⟩
    · cases J3 hb h1
      exact (hob k _ h2).2 hs
    · subst h2
      have e : ph.C = b := hb
      exact (hlo b (by unfold Ph.N0; omega) hs).2.1 e.symm
  have rdn : ∀ l b, inBlk b l → Seen A b → ¬ Ro A b → ∀ k, ¬ RdP ph k l := fun l b hb hs hr k ⟨b', h1, h2, h3, h4⟩ => by
    cases J3 hb h1
    exact hr (hlo _ (by unfold Ph.N0; omega) hs).2.2.2
  refine ⟨rfl, fun x hx => ?_⟩
  cases h with
  | read h =>
    rename_i a
    simp [MemAct.ofEvent, MemAct.touch?] at hx; subst hx
    exact .inr ⟨sh _ a.block rfl h, fun k _ _ => own (.cell a) a.block rfl h k, by simp⟩
  | write h h2 =>
    rename_i a
    simp [MemAct.ofEvent, MemAct.touch?] at hx; subst hx
    exact .inr ⟨sh _ a.block rfl h, fun k _ _ => own (.cell a) a.block rfl h k, fun _ k _ _ => rdn (.cell a) a.block rfl h h2 k⟩
  | obj h h2 =>
    rename_i r wr
    have e : MemAct.ofEvent ⟨.obj r, wr, false⟩ = .access ⟨.obj r, wr, false⟩ := by cases wr <;> rfl
    rw [e] at hx
    simp [MemAct.touch?] at hx; subst hx
    exact .inr ⟨sh _ r rfl h, fun k _ _ => own (.obj r) r rfl h k, fun _ k _ _ => rdn (.obj r) r rfl h h2 k⟩
  | room => simp [MemAct.ofEvent, MemAct.touch?] at hx
theorem Ca (hG : Geo ph) (I : PInv ph g A gs w t D) (hA' : Sees A' w') (htape : A'.tape = A.tape) (hT : Turns A w A' w') (hE : ∀ e ∈ es, EvOk A' e) :
    PInv ph g' A' ((gs.map (woken ph.P g g' w')).setIfInBounds 0 g') w' (t ++ MemOp.ofEvents 0 g.frame.fn g.frame.place es) D := by
  have h := I.sta.com
  obtain ⟨st, sm, h1, h2⟩ := I.sta.md
  have hs1 := h.s1
  have hCW := hG.CW
  have hWlt := WgLive.lt h.live
  have hN : ph.N0 ≤ w.heap.size := hWlt
  have hk : 0 < gs.size := (Array.getElem?_eq_some_iff.1 I.at0).1
  have hWg : w'.heap[ph.Wg]? = w.heap[ph.Wg]? := (hT.hid _ hWlt I.noWg).1
  have hCc : w'.heap[ph.C]? = w.heap[ph.C]? := (hT.hid _ (by omega) I.noC).1
  have hwg' : WgAt ph.ty ph.Wg w' st sm := h1.of_block hWg
  have hrds' : Rds ph.N0 A' := I.rds.turns hN hT
  have hsn : ∀ b, b < w.heap.size → Seen A' b → Seen A b := fun b hb hs => (hT.grow hs).resolve_right (by omega)
  have hmob : ∀ k b, (D k).ob b → ¬ Seen A' b := fun k b hb hs => I.mob k b hb (hsn b (h.obl k b hb).2 hs)
  have g01 : g0 A' = g0 A := by unfold g0; rw [htape]
  have g11 : g1 A' = g1 A := by unfold g1; rw [htape]
  have hlo : ∀ b, b < ph.N0 → Seen A' b → Seen ph.A0 b ∧ b ≠ ph.C ∧ b ≠ ph.Wg ∧ Ro A' b := fun b hb hs => by
    have h3 := hsn b (by omega) hs
    exact ⟨I.low0 b hb h3, fun e => I.noC (e ▸ h3), fun e => I.noWg (e ▸ h3), (hrds' b hb).resolve_right fun h => h hs⟩
  have hsz : ((gs.map (woken ph.P g g' w')).setIfInBounds 0 g').size = gs.size := by simp
  refine ⟨by simp [hk], ⟨h.stepK hk (fun j _ => rfl) hT.os hT.output hT.le (fun b hb _ _ => I.rds.still hT hN hb) (fun j _ b hb => (hT.hid b (h.obl j b hb).2 (I.mob j b hb)).1) (fun _ => ⟨st, sm, hwg'⟩) ?_ (fun j _ _ i _ => Go.ConcN.cell_of_block hCc _) (fun h => by omega) (fun h => by omega) (fun h => by omega) (fun h => by omega) (fun h => by omega) (fun _ b => h.nob 0 (.inl (by omega)) b) (fun b hb => absurd hb (h.nob 0 (.inl (by omega)) b)) ?_ (fun e he => N7 hA'.size (hE e he)), st, sm, hwg', ?_⟩, hA', hrds', fun hs => (hT.hid _ (by omega) I.noC).2 hs, fun hs => (hT.hid _ hWlt I.noWg).2 hs, fun b hb hs => (hlo b hb hs).1, hmob, by rw [hsz, g01, g11]; exact I.num, ?_⟩
  · intro hn0
    obtain ⟨cs, h3, h4⟩ := h.cells hn0
    exact ⟨cs, hCc.trans h3, h4⟩
  · refine CJ.app0 (h.apart hG) hs1 h.szl h.ct (fun op hop => ?_) fun op hop => ?_
    · obtain ⟨e, he, rfl⟩ := Go.Conc.mem_ofEvents hop
      exact Bc hG hlo (fun k b hb => ⟨(h.obl k b hb).1, hmob k b hb⟩) (hE e he)
    · obtain ⟨e, he, rfl⟩ := Go.Conc.mem_ofEvents hop
      exact Hd (hE e he)
  · rw [hsz, g01, g11]; exact h2
  · rw [Deaf_own, g01, ← I.deaf]
    refine Go.Conc.deafBehind_still (fun e he => ?_) _
    have := Wf (hE e he) (Nat.le_refl _) (Shun := fun _ => False) fun l b h => h.elim
    exact ⟨this.1.2.1, this.1.2.2.1⟩
end
end Go.Dw.J
end
section
namespace Go.Dw.J
open Go.Dw Go.RowKit
open Go.Conc (G crowd Goes Deaf QuitsD awake awake_of crowd_pick runT_crowd_go woken woken_run Deaf_other Deaf_own Aside)
open Go.ConcR (Payload WgAt KK stA smA rd wr mk ofEvent_cell)
open Go.ConcN (upd upd_same upd_ne WgLive)
open Go.CJ (CJ OkW Ok0)
set_option linter.unusedVariables false
set_option linter.unusedSimpArgs false
set_option linter.unusedSectionVars false
inductive BkM (Wg : Nat) : Event → Prop
  | disable : BkM Wg (mk .disable)
  | enable : BkM Wg (mk .enable)
  | cell (a : Addr) (b : Bool) : a.block = Wg → BkM Wg ⟨.cell a, b, true⟩
  | read (a : Addr) : a.block = Wg → BkM Wg (mk (.read a))
  | write (a : Addr) : a.block = Wg → BkM Wg (mk (.write a))
  | acquire (a : Addr) : a.block = Wg → BkM Wg (mk (.acquire a))
theorem BkM.ok {ph : Ph} {D : Nat → WS} {N : Nat} {fn : FuncId} {pos : String} {e : Event} (h : BkM ph.Wg e) : Ok0 ph.s0 (ShP ph) (OwnP ph D) (RdP ph) N { g := 0, fn := fn, pos := pos, act := .ofEvent e } := by
  refine ⟨rfl, fun x hx => ?_⟩
  cases h with
  | disable => simp [mk, MemAct.ofEvent, MemAct.touch?] at hx
  | enable => simp [mk, MemAct.ofEvent, MemAct.touch?] at hx
  | cell a b h => simp only [ofEvent_cell, MemAct.touch?, Option.some.injEq] at hx; subst hx; exact .inl ⟨.inr h, by simp⟩
  | read a h => simp [mk, MemAct.ofEvent, MemAct.touch?] at hx; subst hx; exact .inl ⟨.inr h, by simp⟩
  | write a h => simp [mk, MemAct.ofEvent, MemAct.touch?] at hx; subst hx; exact .inl ⟨.inr h, by simp⟩
  | acquire a h => simp [mk, MemAct.ofEvent, MemAct.touch?] at hx
theorem BkM.low {Wg B : Nat} {e : Event} (h : BkM Wg e) (hB : Wg < B) : (MemAct.ofEvent e).low B := by
  cases h with
  | disable => trivial
  | enable => trivial
  | cell a b h => rw [ofEvent_cell]; show a.block < B; rw [h]; exact hB
  | read a h => show a.block < B; rw [h]; exact hB
  | write a h => show a.block < B; rw [h]; exact hB
  | acquire a h => show a.block < B; rw [h]; exact hB
theorem BkM.norel {Wg : Nat} {e : Event} {a : Addr} (h : BkM Wg e) : MemAct.ofEvent e ≠ .mark (.release a) := by
  intro e2
  cases h with
  | cell a b h => rw [ofEvent_cell] at e2; cases e2
  | _ => simp [mk, MemAct.ofEvent] at e2
section
variable [Payload] {ph : Ph} {g g' : Goroutine} {A A' : World} {gs : Array Goroutine} {w w' : World} {t : Trace} {D : Nat → WS} {es : Array Event} {st sm st' sm' : Int} {s' v' : Nat}
theorem N2 (hG : Geo ph) (h : Com ph gs w t D) (hk : 0 < gs.size) (hAs : Aside ph.Wg w w') (hwg : WgAt ph.ty ph.Wg w' st' sm') (hok : ∀ e ∈ es, BkM ph.Wg e) : Com ph ((gs.map (woken ph.P g g' w')).setIfInBounds 0 g') w' (t ++ MemOp.ofEvents 0 g.frame.fn g.frame.place es) D := by
  have hs1 := h.s1
  have hCW := hG.CW
  have hWlt := WgLive.lt h.live
  have hblk : ∀ b, b ≠ ph.Wg → w'.heap[b]? = w.heap[b]? := fun b hb => hAs.block b hb
  refine h.stepK hk (fun j _ => rfl) hAs.os hAs.output (Nat.le_of_eq hAs.size.symm) (fun b _ _ hb => hblk b hb) (fun j _ b hb => hblk b fun e => by have := (h.obl j b hb).1; unfold Ph.N0 at this; omega) (fun _ => ⟨st', sm', hwg⟩) ?_ (fun j _ _ i _ => Go.ConcN.cell_of_block (hblk ph.C (by omega)) _) (fun h => by omega) (fun h => by omega) (fun h => by omega) (fun h => by omega) (fun h => by omega) (fun _ b => h.nob 0 (.inl (by omega)) b) (fun b hb => absurd hb (h.nob 0 (.inl (by omega)) b)) ?_ (fun e he => (hok e he).low (by rw [hAs.size]; exact hWlt))
  · intro hn0
    obtain ⟨cs, h1, h2⟩ := h.cells hn0
    exact ⟨cs, (hblk ph.C (by omega)).trans h1, h2⟩
  · refine CJ.app0 (h.apart hG) hs1 h.szl h.ct (fun op hop => ?_) fun op hop => ?_
    · obtain ⟨e, he, rfl⟩ := Go.Conc.mem_ofEvents hop
      exact (hok e he).ok
    · obtain ⟨e, he, rfl⟩ := Go.Conc.mem_ofEvents hop
      exact (hok e he).norel
theorem Ws (hG : Geo ph) (I : PInv ph g A gs w t D) (hAs : Aside ph.Wg w w') (hwg : WgAt ph.ty ph.Wg w' st' sm') (hh : A'.heap = A.heap) (ho : A'.os = A.os) (hp : A'.output = A.output) (hok : ∀ e ∈ es, BkM ph.Wg e) (hdeaf : deafBehind (dOf (g0 A)) es = dOf (g0 A')) (hmd : Md ph.n (σf ph gs.size D) (g0 A') (g1 A') st' sm')
    (hnum : (g0 A' ≤ 3 → gs.size = ph.s0) ∧ (g0 A' = 4 → gs.size = ph.s0 + g1 A') ∧ (5 ≤ g0 A' → gs.size = ph.s0 + ph.n)) : PInv ph g' A' ((gs.map (woken ph.P g g' w')).setIfInBounds 0 g') w' (t ++ MemOp.ofEvents 0 g.frame.fn g.frame.place es) D := by
  have hk : 0 < gs.size := (Array.getElem?_eq_some_iff.1 I.at0).1
  have hsz : ((gs.map (woken ph.P g g' w')).setIfInBounds 0 g').size = gs.size := by simp
  have hsn : ∀ b, Seen A' b ↔ Seen A b := fun b => by unfold Seen; rw [hh]
  have hro : ∀ b, Ro A' b ↔ Ro A b := fun b => by unfold Ro; rw [hh]
  refine ⟨by simp [hk], ⟨N2 hG I.sta.com hk hAs hwg hok, st', sm', hwg, by rw [hsz]; exact hmd⟩, ?_, fun b hb => ?_, fun hs => I.noC ((hsn _).1 hs), fun hs => I.noWg ((hsn _).1 hs), fun b hb hs => I.low0 b hb ((hsn b).1 hs), fun k b hb hs => I.mob k b hb ((hsn b).1 hs), by rw [hsz]; exact hnum, by rw [Deaf_own, I.deaf]; exact hdeaf⟩
  · have h1 := I.sees.still hAs.os hAs.output (Nat.le_of_eq hAs.size.symm) fun b hb => hAs.block b fun e => I.noWg (e ▸ hb)
    exact ⟨ho.trans h1.os, hp.trans h1.output, by rw [hh]; exact h1.size, by rw [hh]; exact h1.vis, by rw [hh]; exact h1.nv⟩
  · exact (I.rds b hb).imp (hro b).2 fun hn hs => hn ((hsn b).1 hs)
end
end Go.Dw.J
end
section
namespace Go.Dw.J
open Go.Dw Go.RowKit
open Go.Conc (G crowd Goes Deaf QuitsD awake awake_of crowd_pick runT_crowd_go woken woken_run Deaf_other Deaf_own Aside aside_setCell)
open Go.ConcR (Payload WgAt KK stA smA rd wr mk ofEvent_cell)
open Go.ConcN (upd upd_same upd_ne WgLive sumTo)
open Go.CJ (CJ OkW Ok0)
set_option linter.unusedVariables false
set_option linter.unusedSimpArgs false
set_option linter.unusedSectionVars false
theorem Ko (A : World) (s v : Nat) : g0 (setT A s v) = s := rfl
section
variable {n v : Nat} {σ : Nat → Nat} {st sm : Int} {s : Nat}
theorem Lm {f : Nat → Nat} : ∀ n, (∀ i, i < n → f i = 1) → sumTo n f = n
  | 0, _ => rfl
  | n + 1, h => by
    have h1 := Lm n fun i hi => h i (by omega)
    have h2 := h n (by omega)
    have e : sumTo (n + 1) f = sumTo n f + f n := rfl
    omega
theorem Md.atPre (h : Md n σ s v st sm) (hs : s = 1 ∨ s = 2) : st = 0 ∧ sm = 0 ∧ ∀ i, i < n → σ i = 9 := by
  cases h with
  | pre h1 h2 => exact ⟨rfl, rfl, h2⟩
  | opn h1 _ _ => omega
  | reg h1 _ _ => omega
  | last L h1 _ _ _ => omega
  | sema h1 _ => omega
  | fin h1 _ => omega
theorem Md.atOpn (h : Md n σ s v st sm) (hs : s = 3 ∨ s = 4 ∨ s = 5) : st = (Vc n σ : Nat) * KK ∧ sm = 0 ∧ (∀ i, i < n → 5 ≤ σ i ∨ σ i = 1) ∧ (s = 5 → Vc n σ ≤ v) := by
  cases h with
  | pre h1 h2 => omega
  | opn h1 h2 h3 => exact ⟨rfl, rfl, h2, h3⟩
  | reg h1 _ _ => omega
  | last L h1 _ _ _ => omega
  | sema h1 _ => omega
  | fin h1 _ => omega
theorem Md.atFin (h : Md n σ s v st sm) (hs : s = 8 ∨ s = 9) : st = 0 ∧ sm = 0 ∧ ∀ i, i < n → σ i = 1 := by
  cases h with
  | pre h1 h2 => omega
  | opn h1 h2 h3 => omega
  | reg h1 _ _ => omega
  | last L h1 _ _ _ => omega
  | sema h1 _ => omega
  | fin h1 h2 => exact ⟨rfl, rfl, h2⟩
theorem L0 {a b : Nat} (h : (a : Int) * KK = (b : Int) * KK) : a = b := by
  have : (KK : Int) = 4294967296 := rfl
  rw [this] at h; omega
theorem E1 (h : ∀ i, i < n → σ i = 9) : Vc n σ = n := Lm n fun i hi => by rw [h i hi]; rfl
theorem C8 (h : ∀ i, i < n → 5 ≤ σ i ∨ σ i = 1) (h0 : Vc n σ = 0) : ∀ i, i < n → σ i = 1 := fun i hi => by
  rcases h i hi with h1 | h1
  · have := Go.ConcN.le_sumTo (f := fun x => cnt (σ x)) hi
    have c : cnt (σ i) = 1 := by simp [cnt, h1]
    simp only [Vc] at h0
    omega
  · exact h1
end
section
variable [Payload] {ph : Ph} {g g' : Goroutine} {A A' : World} {gs : Array Goroutine} {w w' : World} {t : Trace} {D : Nat → WS} {es : Array Event}
theorem PInv.set (I : PInv ph g A gs w t D) (hG : Geo ph) {s v : Nat} {st' sm' : Int} (hAs : Aside ph.Wg w w') (hwg : WgAt ph.ty ph.Wg w' st' sm') (hok : ∀ e ∈ es, BkM ph.Wg e) (hdeaf : deafBehind (dOf (g0 A)) es = dOf s) (hmd : Md ph.n (σf ph gs.size D) s v st' sm')
    (hnum : (s ≤ 3 → gs.size = ph.s0) ∧ (s = 4 → gs.size = ph.s0 + v) ∧ (5 ≤ s → gs.size = ph.s0 + ph.n)) : PInv ph g' (setT A s v) ((gs.map (woken ph.P g g' w')).setIfInBounds 0 g') w' (t ++ MemOp.ofEvents 0 g.frame.fn g.frame.place es) D :=
  Ws hG I hAs hwg rfl rfl rfl hok hdeaf hmd hnum
theorem I7 (hG : Geo ph) (I : PInv ph g A gs w t D) (h : SpP ph A w A' w' es) (h9 : g0 A ≠ 9) : g0 A' ≠ 0 ∧ PInv ph g' A' ((gs.map (woken ph.P g g' w')).setIfInBounds 0 g') w' (t ++ MemOp.ofEvents 0 g.frame.fn g.frame.place es) D := by
  obtain ⟨st, sm, h1, h2⟩ := I.sta.md
  have hnum := I.num
  cases h with
  | disable e1 e2 e3 e4 =>
    subst e2 e3 e4
    rw [e1] at h2 hnum
    obtain ⟨rfl, rfl, h3⟩ := h2.atPre (by omega)
    exact ⟨by rw [Ko]; omega, I.set hG (.refl _ _) h1 (fun e he => by simp at he; subst he; exact .disable) (by rw [e1]; rfl) (.pre (by omega) h3) ⟨fun _ => hnum.1 (by omega), fun e => by omega, fun e => by omega⟩⟩
  | add e1 e2 e3 e4 =>
    subst e2 e3 e4
    rw [e1] at h2 hnum
    obtain ⟨rfl, rfl, h3⟩ := h2.atPre (by omega)
    refine ⟨by rw [Ko]; omega, I.set hG (aside_setCell w (stA ph.Wg) _) (h1.setSt _) (fun e he => by simp at he; rcases he with rfl | rfl <;> exact .cell _ _ rfl) (by rw [e1]; rfl) ?_ ⟨fun _ => hnum.1 (by omega), fun e => by omega, fun e => by omega⟩⟩
    have := Md.opn (n := ph.n) (σ := σf ph gs.size D) (s := 3) (v := 0) (by omega) (fun i hi => by rw [h3 i hi]; omega) (fun e => by omega)
    rwa [E1 h3] at this
  | read e1 e2 e3 e4 =>
    subst e2 e3 e4
    refine ⟨by rw [e1]; omega, Ws hG I (.refl _ _) h1 rfl rfl rfl (fun e he => by simp at he; subst he; exact .read _ rfl) (by rw [e1]; rfl) h2 hnum⟩
  | enable e1 e2 e3 e4 =>
    subst e2 e3 e4
    rw [e1] at h2 hnum
    obtain ⟨rfl, rfl, h3, _⟩ := h2.atOpn (by omega)
    exact ⟨by rw [Ko]; omega, I.set hG (.refl _ _) h1 (fun e he => by simp at he; subst he; exact .enable) (by rw [e1]; rfl) (.opn (by omega) h3 (fun e => by omega)) ⟨fun e => by omega, fun _ => by have := hnum.1 (by omega); omega, fun e => by omega⟩⟩
  | disable2 e1 e2 e3 e4 e5 =>
    subst e3 e4 e5
    rw [e1] at h2 hnum
    obtain ⟨rfl, rfl, h3, _⟩ := h2.atOpn (by omega)
    exact ⟨by rw [Ko]; omega, I.set hG (.refl _ _) h1 (fun e he => by simp at he; subst he; exact .disable) (by rw [e1]; rfl) (.opn (by omega) h3 (fun _ => Eh _ _)) ⟨fun e => by omega, fun e => by omega, fun _ => by have := hnum.2.1 rfl; omega⟩⟩
  | load0 e1 e2 e3 e4 e5 =>
    subst e3 e4 e5
    rw [e1] at h2 hnum
    obtain ⟨rfl, rfl, h3, _⟩ := h2.atOpn (by omega)
    have h0 : Vc ph.n (σf ph gs.size D) = 0 := L0 (by have := (h1.unique e2).1; rw [this]; simp)
    rw [h0] at h1
    exact ⟨by rw [Ko]; omega, I.set hG (.refl _ _) h1 (fun e he => by simp at he; subst he; exact .cell _ _ rfl) (by rw [e1]; rfl) (by simpa using Md.fin (n := ph.n) (v := 0) (s := 8) (by omega) (C8 h3 h0)) ⟨fun e => by omega, fun e => by omega, fun _ => hnum.2.2 (by omega)⟩⟩
  | load v e1 e3 e4 e5 e6 e7 =>
    subst e5 e6 e7
    rw [e1] at h2 hnum
    obtain ⟨rfl, rfl, h3, _⟩ := h2.atOpn (by omega)
    have h0 : Vc ph.n (σf ph gs.size D) = v := L0 (h1.unique e4).1
    exact ⟨by rw [Ko]; omega, I.set hG (.refl _ _) h1 (fun e he => by simp at he; subst he; exact .cell _ _ rfl) (by rw [e1]; rfl) (.opn (by omega) h3 (fun _ => by omega)) ⟨fun e => by omega, fun e => by omega, fun _ => hnum.2.2 (by omega)⟩⟩
  | hit v e1 e2 e4 e5 e6 e7 =>
    subst e5 e6 e7
    rw [e1] at h2 hnum
    obtain ⟨rfl, rfl, h3, _⟩ := h2.atOpn (by omega)
    have h0 : Vc ph.n (σf ph gs.size D) = v := L0 (h1.unique e4).1
    refine ⟨by rw [Ko]; omega, I.set hG (aside_setCell w (stA ph.Wg) _) (h1.setSt _) (fun e he => by simp at he; rcases he with rfl | rfl <;> exact .cell _ _ rfl) (by rw [e1]; rfl) ?_ ⟨fun e => by omega, fun e => by omega, fun _ => hnum.2.2 (by omega)⟩⟩
    rw [← h0]
    exact .reg (by omega) h3 (by omega)
  | write e1 e2 e3 e4 =>
    subst e2 e3 e4
    refine ⟨by rw [e1]; omega, Ws hG I (.refl _ _) h1 rfl rfl rfl (fun e he => by simp at he; subst he; exact .write _ rfl) (by rw [e1]; rfl) h2 hnum⟩
  | load2 e1 e2 e3 e4 =>
    subst e2 e3 e4
    refine ⟨by rw [e1]; omega, Ws hG I (.refl _ _) h1 rfl rfl rfl (fun e he => by simp at he; subst he; exact .cell _ _ rfl) (by rw [e1]; rfl) h2 hnum⟩
  | enable2 e1 e2 e3 e4 =>
    subst e2 e3 e4
    rw [e1] at h2 hnum
    obtain ⟨rfl, rfl, h3⟩ := h2.atFin (by omega)
    exact ⟨by rw [Ko]; omega, I.set hG (.refl _ _) h1 (fun e he => by simp at he; subst he; exact .enable) (by rw [e1]; rfl) (.fin (by omega) h3) ⟨fun e => by omega, fun e => by omega, fun _ => hnum.2.2 (by omega)⟩⟩
  | acquire e1 _ _ _ => exact absurd e1 h9
end
end Go.Dw.J
end
section
namespace Go.Dw.J
open Go.Dw Go.RowKit
open Go.Conc (G crowd Goes Deaf QuitsD awake awake_of crowd_pick runT_crowd_go woken woken_run Deaf_other Deaf_own Aside aside_setCell Leavers Past)
open Go.ConcR (Payload WgAt KK stA smA rd wr mk ofEvent_cell)
open Go.ConcN (upd upd_same upd_ne WgLive sumTo RelBy)
open Go.CJ (CJ OkW Ok0)
set_option linter.unusedVariables false
set_option linter.unusedSimpArgs false
set_option linter.unusedSectionVars false
theorem Pa {f : Nat → List Value} {sz : Nat} : ∀ (n : Nat), (∀ i, i < n → (f i).length = sz) → ((List.range n).map f).flatten.length = n * sz ∧ ∀ i j, i < n → j < sz → ((List.range n).map f).flatten[i * sz + j]? = (f i)[j]?
  | 0, _ => ⟨by simp, fun i j hi => by omega⟩
  | n + 1, h => by
    obtain ⟨h1, h2⟩ := Pa n fun i hi => h i (by omega)
    have hn := h n (by omega)
    have e : ((List.range (n + 1)).map f).flatten = ((List.range n).map f).flatten ++ f n := by rw [List.range_succ, List.map_append, List.flatten_append]; simp
    refine ⟨by rw [e, List.length_append, h1, hn, Nat.add_mul, Nat.one_mul], fun i j hi hj => ?_⟩
    rw [e]
    rcases Nat.lt_or_ge i n with hlt | hge
    · have : (i + 1) * sz ≤ n * sz := Nat.mul_le_mul_right _ hlt
      rw [Nat.add_mul, Nat.one_mul] at this
      rw [List.getElem?_append_left (by rw [h1]; omega), h2 i j hlt hj]
    · obtain rfl : i = n := by omega
      rw [List.getElem?_append_right (by rw [h1]; omega), h1, Nat.add_sub_cancel_left]
theorem To {cs : Array Value} {f : Nat → List Value} {sz n : Nat} (hs : cs.size = n * sz) (hl : ∀ i, i < n → (f i).length = sz) (h : ∀ i j, i < n → j < sz → cs[i * sz + j]? = (f i)[j]?) : cs = ((List.range n).map f).flatten.toArray := by
  obtain ⟨h1, h2⟩ := Pa n hl
  apply Array.ext'
  apply List.ext_getElem?
  intro q
  simp only [Array.getElem?_toList, List.toList_toArray]
  rcases Nat.lt_or_ge q (n * sz) with hq | hq
  · have hsz : 0 < sz := Nat.pos_of_ne_zero fun e => by subst e; omega
    have e : q = q / sz * sz + q % sz := by rw [Nat.mul_comm]; exact (Nat.div_add_mod q sz).symm
    have hi : q / sz < n := (Nat.div_lt_iff_lt_mul hsz).2 hq
    rw [e, h _ _ hi (Nat.mod_lt _ hsz), h2 _ _ hi (Nat.mod_lt _ hsz)]
  · rw [Array.getElem?_eq_none (by omega), List.getElem?_eq_none (by omega)]
def endO (ph : Ph) (w : World) (b : Nat) : Obj := if b < ph.Wg ∧ b ≠ ph.C then (ph.A0.heap[b]?).getD pz else if b = ph.Wg then pz else seeO ((w.heap[b]?).getD pz)
def endW (ph : Ph) (w : World) : World := { w with heap := (Array.range w.heap.size).map (endO ph w), tape := mkT [] }
theorem Wc {ph : Ph} {w : World} {b : Nat} (hb : b < w.heap.size) : (endW ph w).heap[b]? = some (endO ph w b) := by simp [endW, hb]
theorem Ui {ph : Ph} {w : World} : (endW ph w).heap.size = w.heap.size := by simp [endW]
structure KeepP [KeepD] (ph : Ph) : Prop where
  le : KeepD.B0 ≤ ph.Wg
  ne : KeepD.B0 ≤ ph.C
  keep : ∀ b, b < KeepD.B0 → (Seen ph.A0 b ∧ ph.A0.heap[b]? = ph.W0.heap[b]?) ∨ (¬ Seen ph.A0 b ∧ ph.W0.heap[b]? = KeepD.Wi.heap[b]?)
theorem KeepP.fin [KeepD] {ph : Ph} (h : KeepP ph) (hG : Geo ph) {A' w : World} (hW : ph.Wg < w.heap.size) (hF : Fin ph A' w) : Keep A' w := by
  have hCW := hG.CW
  have hle := h.le
  have hne := h.ne
  refine ⟨by omega, fun b hb => ?_⟩
  have e1 := hF.low b (by omega) (by omega)
  have e2 := hF.same b (by omega) (by omega)
  have hs := hF.size
  have hs0 := hG.size
  rcases h.keep b hb with ⟨h1, h2⟩ | ⟨h1, h2⟩
  · exact .inl ⟨⟨by omega, by rw [e1]; exact h1.2⟩, by rw [e1, e2, h2]⟩
  · exact .inr ⟨fun hs => h1 ⟨by omega, by rw [← e1]; exact hs.2⟩, by rw [e2, h2]⟩
section
variable [Payload] {ph : Ph} {g g' : Goroutine} {A A' : World} {gs : Array Goroutine} {w w' : World} {t : Trace} {D : Nat → WS} {es : Array Event}
theorem E9 (hG : Geo ph) (h : Com ph gs w t D) (hN : gs.size = ph.s0 + ph.n) (h1 : ∀ i, i < ph.n → σf ph gs.size D i = 1) : Fin ph (endW ph w) w := by
  have hCW := hG.CW
  have hWlt := WgLive.lt h.live
  have hst : ∀ i, i < ph.n → (D (ph.s0 + i)).stage = 1 := fun i hi => by
    have := h1 i hi
    unfold σf at this
    rwa [if_pos (by omega)] at this
  have hrec : ∀ i, i < ph.n → Rec ph (ph.s0 + i) (D (ph.s0 + i)) w := fun i hi => h.rcd _ (by omega) (by omega) (.inl (by rw [hst i hi]; omega))
  obtain ⟨oC, hoC⟩ : ∃ o, w.heap[ph.C]? = some o := ⟨_, Array.getElem?_eq_getElem (by omega)⟩
  have hC : (endW ph w).heap[ph.C]? = some (seeO oC) := by
    rw [Wc (by omega)]
    simp [endO, hoC, show ph.C ≠ ph.Wg by omega]
  have hA0 : ∀ b, b < ph.Wg → b ≠ ph.C → (endW ph w).heap[b]? = ph.A0.heap[b]? := fun b hb hbC => by
    rw [Wc (by omega)]
    have : b < ph.A0.heap.size := by rw [hG.size]; exact hb
    simp [endO, hb, hbC, this]
  have hhi : ∀ b o, ph.Wg < b → w.heap[b]? = some o → (endW ph w).heap[b]? = some (seeO o) := fun b o hb ho => by
    rw [Wc (Array.getElem?_eq_some_iff.1 ho).1]
    simp [endO, ho, show ¬ (b < ph.Wg ∧ b ≠ ph.C) by omega, show b ≠ ph.Wg by omega]
  have hW : (endW ph w).heap[ph.Wg]? = some pz := by
    rw [Wc hWlt]; simp [endO]
  have hrows : ph.n ≠ 0 → (endW ph w).heap[ph.C]? = some (.cells ((List.range ph.n).map fun i => (D (ph.s0 + i)).row).flatten.toArray ph.TT (0, 0)) := by
    intro hn0
    obtain ⟨cs, hc1, hc2⟩ := h.cells hn0
    rw [hoC] at hc1
    cases hc1
    rw [hC]
    show some (Obj.cells cs ph.TT (0, 0)) = _
    congr 2
    refine To hc2 (fun i hi => (hrec i hi).len) fun i j hi hj => ?_
    have hj' : j < (D (ph.s0 + i)).row.length := by rw [(hrec i hi).len]; exact hj
    have := (hrec i hi).laid j _ (List.getElem?_eq_getElem hj')
    rw [show ph.s0 + i - ph.s0 = i by omega] at this
    simp [World.cell?, hoC] at this
    rw [this, List.getElem?_eq_getElem hj']
  refine ⟨rfl, ⟨rfl, rfl, Nat.le_of_eq Ui, fun b hb => ?_, fun b at_ u e => ?_⟩, h.os0.symm, h.out0.symm, h.same, hA0, fun hs => hs.2 hW, by rw [Ui]; exact hWlt, _, ?_, fun i vs hi => ?_, hrows⟩
  · rw [Ui] at hb
    rcases Nat.lt_trichotomy b ph.Wg with h2 | h2 | h2
    · by_cases e : b = ph.C
      · subst e; rw [hC, hoC]
        cases oC <;> first | exact .inl rfl | exact .inr (.inl rfl)
      · rw [hA0 b h2 e]; exact h.vis0 b h2 e
    · subst h2; rw [hW]; exact .inr (.inl rfl)
    · obtain ⟨o, ho⟩ : ∃ o, w.heap[b]? = some o := ⟨_, Array.getElem?_eq_getElem hb⟩
      rw [hhi b o h2 ho, ho]
      cases o <;> first | exact .inl rfl | exact .inr (.inl rfl)
  · have hb : b < w.heap.size := by rw [← Ui (ph := ph)]; exact (Array.getElem?_eq_some_iff.1 e).1
    rcases Nat.lt_trichotomy b ph.Wg with h2 | h2 | h2
    · by_cases e2 : b = ph.C
      · subst e2; rw [hC] at e; cases oC <;> cases e
      · rw [hA0 b h2 e2] at e; exact hG.nv _ _ _ e
    · subst h2; rw [hW] at e; cases e
    · obtain ⟨o, ho⟩ : ∃ o, w.heap[b]? = some o := ⟨_, Array.getElem?_eq_getElem hb⟩
      rw [hhi b o h2 ho] at e
      cases o <;> cases e
  · simp
  · obtain ⟨hi1, rfl⟩ := List.getElem?_eq_some_iff.1 hi
    have hin : i < ph.n := by simpa using hi1
    have hr := hrec i hin
    rw [List.getElem_map, List.getElem_range]
    refine ⟨hr.len, hG.mono i _ _ _ (fun b T c hs hR => ?_) (by have := hr.out; rwa [show ph.s0 + i - ph.s0 = i by omega] at this)⟩
    have look : ∀ (x y : Option Obj), Vis x y → x ≠ some pz → (∃ fr, x = some (.cells c T fr)) → ∃ fr, y = some (.cells c T fr) := by
      rintro x y (rfl | h2 | ⟨c', T', fr, rfl, rfl⟩) hn ⟨fr', h3⟩
      · exact ⟨fr', h3⟩
      · exact absurd h2 hn
      · simp [ro] at h3
        exact ⟨fr, by rw [h3.1, h3.2.1]⟩
    have kool : ∀ (x y : Option Obj), Vis x y → x ≠ some pz → (∃ fr, y = some (.cells c T fr)) → ∃ fr, x = some (.cells c T fr) := by
      rintro x y (rfl | h2 | ⟨c', T', fr, rfl, rfl⟩) hn ⟨fr', h3⟩
      · exact ⟨fr', h3⟩
      · exact absurd h2 hn
      · simp at h3
        exact ⟨(0, c'.size), by rw [ro, h3.1, h3.2.1]⟩
    obtain ⟨fr, hw⟩ := look _ _ (hr.sees.vis b hs.1) hs.2 hR
    rcases Nat.lt_trichotomy b ph.Wg with h2 | h2 | h2
    · have hbC : b ≠ ph.C := fun e => hr.noC (e ▸ hs)
      have h0 := hr.low0 b (by unfold Ph.N0; omega) hs
      obtain ⟨fr2, h3⟩ := kool _ _ (h.vis0 b h2 hbC) h0.2 ⟨fr, hw⟩
      exact ⟨fr2, (hA0 b h2 hbC).trans h3⟩
    · subst h2; exact absurd hs hr.noWg
    · exact ⟨fr, hhi b _ h2 hw⟩
theorem R7 [KeepD] (hG : Geo ph) (hK : KeepP ph) (I : PInv ph g A gs w t D) (h9 : g0 A = 9) (hF : Fin ph A' w) : ∃ q, BesInv ph.P g' A' ((gs.map (woken ph.P g g' w)).setIfInBounds 0 g') w (t ++ MemOp.ofEvents 0 g.frame.fn g.frame.place #[mk (.acquire (stA ph.Wg))]) q (ShP ph) := by
  obtain ⟨st, sm, h1, h2⟩ := I.sta.md
  have hnum := I.num
  rw [h9] at h2 hnum
  obtain ⟨rfl, rfl, h3⟩ := h2.atFin (by omega)
  have hk : 0 < gs.size := (Array.getElem?_eq_some_iff.1 I.at0).1
  have hok : ∀ e ∈ #[mk (.acquire (stA ph.Wg))], BkM ph.Wg e := fun e he => by simp at he; subst he; exact .acquire _ rfl
  have hc := N2 (g := g) (g' := g') hG I.sta.com hk (.refl _ w) h1 hok
  have hsz : ((gs.map (woken ph.P g g' w)).setIfInBounds 0 g').size = gs.size := by simp
  have hst : ∀ k, 1 ≤ k → k < gs.size → (D k).stage = 1 := fun k hk1 hk2 => by
    rcases Nat.lt_or_ge k ph.s0 with h4 | h4
    · exact I.sta.com.old k hk1 h4
    · have := h3 (k - ph.s0) (by have := hnum.2.2 (by omega); omega)
      rwa [σf_at h4 hk2] at this
  have hd : Deaf (t ++ MemOp.ofEvents 0 g.frame.fn g.frame.place #[mk (.acquire (stA ph.Wg))]) 0 = 0 := by rw [Deaf_own, I.deaf, h9]; rfl
  have e1 : MemOp.ofEvents 0 g.frame.fn g.frame.place #[mk (.acquire (stA ph.Wg))] = #[{ g := 0, fn := g.frame.fn, pos := g.frame.place, act := .mark (.acquire (stA ph.Wg)) }] := by rw [Go.Conc.ofEvents_eq]; simp [Go.ConcR.ofEvent_mk]
  have hy : (t ++ MemOp.ofEvents 0 g.frame.fn g.frame.place #[mk (.acquire (stA ph.Wg))])[t.size]? = some { g := 0, fn := g.frame.fn, pos := g.frame.place, act := .mark (.acquire (stA ph.Wg)) } := by rw [e1]; simp
  have hq : ∀ k : Nat, ∃ m, 1 ≤ k → ∀ x, ((gs.map (woken ph.P g g' w)).setIfInBounds 0 g')[k]? = some x → QuitsD ph.P m (Deaf (t ++ MemOp.ofEvents 0 g.frame.fn g.frame.place #[mk (.acquire (stA ph.Wg))]) k) x := fun k => by
    by_cases hk1 : 1 ≤ k
    · by_cases hk2 : k < gs.size
      · obtain ⟨x, hx, hs⟩ := hc.wk k hk1 (by rw [hsz]; exact hk2)
        rw [hst k hk1 hk2] at hs
        cases hs with
        | quit e hq => exact ⟨_, fun _ y hy => by rw [hx] at hy; cases hy; exact hq⟩
      · exact ⟨0, fun _ x hx => by have := (Array.getElem?_eq_some_iff.1 hx).1; rw [hsz] at this; omega⟩
    · exact ⟨0, fun h => absurd h hk1⟩
  refine ⟨fun k => (hq k).choose, by simp [hk], hF.tape, fun op hop => by have := hc.ct.gs op hop; exact this, hF.sees, ⟨fun i x hi hx => (hq i).choose_spec hi x hx, fun j hj => hc.above j hj⟩, ?_, hc.ct.quiet, fun l b hl hb => ?_, fun l hl => ?_, hK.fin hG (WgLive.lt I.sta.com.live) hF⟩
  · refine hc.ct.past hc.low hd (q := t.size) (fun k hk1 hk2 => ?_) (by unfold Trace.act?; rw [hy]; rfl) (by unfold Trace.g?; rw [hy]; rfl) ?_ I.sta.com.s1
    · rw [hsz] at hk2
      have hs1 := I.sta.com.s1
      obtain ⟨r, hr⟩ := I.sta.com.rel k hk1 hk2 (by rw [hst k (by omega) hk2]; omega)
      exact ⟨r, hr.appOther (g := 0) (fun op hop => by obtain ⟨e, _, rfl⟩ := Go.Conc.mem_ofEvents hop; rfl) (by omega), Go.Conc.lt_of_act? hr.act⟩
    · refine ⟨0, by unfold Trace.g?; rw [hy]; rfl, ?_⟩
      rw [Go.Conc.deaf_old (Nat.le_refl _)]
      have := I.deaf
      rw [h9] at this
      exact this
  · have hCW := hG.CW
    rcases hl with hl | hl
    · obtain ⟨h4, h5⟩ := hG.shun l b hl hb
      have hbC : b ≠ ph.C := fun e => h5 (e ▸ hG.seenC)
      refine ⟨Nat.lt_trans h4 (WgLive.lt I.sta.com.live), fun hs => h5 ⟨by rw [hG.size]; exact h4, ?_⟩⟩
      rw [← hF.low b h4 hbC]; exact hs.2
    · cases J3 hb hl
      exact ⟨WgLive.lt I.sta.com.live, hF.noWg⟩
  · rcases hl with hl | hl
    · exact hG.lies l hl
    · exact ⟨_, hl⟩
end
end Go.Dw.J
end
section
namespace Go.CJ
open Go.Conc Go.ConcN
section
variable {s0 N : Nat} {Sh : Loc → Prop} {Own Own' Rd : Nat → Loc → Prop} {a : Addr} {t : Trace}
theorem CJ.congr (h : CJ s0 Sh Own Rd a t N) (e : ∀ k, s0 ≤ k → k < N → ∀ l, Own' k l ↔ Own k l) : CJ s0 Sh Own' Rd a t N :=
  ⟨h.quiet, fun k k1 k2 l hm ho => h.own k k1 k2 l hm ((e k k1 k2 l).1 ho), h.rd, fun l hm hs hl => h.free l hm hs fun k k1 k2 => ⟨fun ho => (hl k k1 k2).1 ((e k k1 k2 l).2 ho), (hl k k1 k2).2⟩, fun l hm hs hl => h.mine l hm hs fun k k1 k2 ho => hl k k1 k2 ((e k k1 k2 l).2 ho), h.nr, h.gs, h.old, h.new, h.over, h.norel⟩
end
end Go.CJ
namespace Go.Dw.J
open Go.Dw Go.RowKit
open Go.Conc (G crowd Goes Deaf QuitsD awake awake_of crowd_pick runT_crowd_go woken woken_run Deaf_other Deaf_own Aside aside_setCell Leavers Past)
open Go.ConcR (Payload WgAt KK stA smA rd wr mk ofEvent_cell)
open Go.ConcN (upd upd_same upd_ne WgLive sumTo RelBy Deaf_still)
open Go.CJ (CJ OkW Ok0)
set_option linter.unusedVariables false
set_option linter.unusedSimpArgs false
set_option linter.unusedSectionVars false
def kidW (N0 bx : Nat) (A : World) : World := { A with heap := A.heap.mapIdx fun b o => if b < N0 ∨ b = bx then o else pz, tape := mkT [] }
def handW (A : World) (bx v : Nat) : World := setT (hideB A bx) 4 v
theorem Wk (N0 bx : Nat) (A : World) (b : Nat) : (kidW N0 bx A).heap[b]? = (A.heap[b]?).map fun o => if b < N0 ∨ b = bx then o else pz := by simp [kidW]
theorem Vn {N0 bx : Nat} {A : World} {b : Nat} (h : b < N0 ∨ b = bx) : (kidW N0 bx A).heap[b]? = A.heap[b]? := by
  rw [Wk]
  cases A.heap[b]? with
  | none => rfl
  | some o => simp [h]
theorem H7 {N0 bx : Nat} {A : World} {b : Nat} : Seen (kidW N0 bx A) b ↔ Seen A b ∧ (b < N0 ∨ b = bx) := by
  have hs : (kidW N0 bx A).heap.size = A.heap.size := by simp [kidW]
  constructor
  · rintro ⟨h1, h2⟩
    rw [hs] at h1
    by_cases h : b < N0 ∨ b = bx
    · rw [Vn h] at h2; exact ⟨⟨h1, h2⟩, h⟩
    · exact absurd (by rw [Wk, Array.getElem?_eq_getElem h1]; simp [h]) h2
  · rintro ⟨⟨h1, h2⟩, h⟩
    exact ⟨by rw [hs]; exact h1, by rw [Vn h]; exact h2⟩
theorem Tr {N0 bx : Nat} {A w : World} (h : Sees A w) : Sees (kidW N0 bx A) w := by
  have hs : (kidW N0 bx A).heap.size = A.heap.size := by simp [kidW]
  refine ⟨h.os, h.output, by rw [hs]; exact h.size, fun b hb => ?_, fun b at_ u e => ?_⟩
  · rw [hs] at hb
    by_cases h2 : b < N0 ∨ b = bx
    · rw [Vn h2]; exact h.vis b hb
    · refine .inr (.inl ?_)
      rw [Wk, Array.getElem?_eq_getElem hb]; simp [h2]
  · by_cases h2 : b < N0 ∨ b = bx
    · rw [Vn h2] at e; exact h.nv _ _ _ e
    · rw [Wk] at e
      cases h3 : A.heap[b]? with
      | none => rw [h3] at e; cases e
      | some o => rw [h3] at e; simp [h2, pz] at e
theorem Dk {N0 bx : Nat} {A : World} {b : Nat} (hb : b < N0) (h : Ro A b) : Ro (kidW N0 bx A) b := let ⟨c, T, e, h2⟩ := h; ⟨c, T, (Vn (.inl hb)).trans e, h2⟩
section
variable [Payload]
def Kid (ph : Ph) (child : Goroutine) (bx : Nat) (val : Value) (i : Nat) (B : World) : Prop := @GoJ (compW ph.C ph.n ph.sz i ph.TT (ph.Out i) bx val Payload.ety) ph.P (StopW ph bx val) child B
variable {ph : Ph} {g g' child : Goroutine} {A A' : World} {gs : Array Goroutine} {w w' : World} {t : Trace} {D : Nat → WS} {bx : Nat} {val : Value}
theorem σf_push {N : Nat} {x' : WS} (h0 : ph.s0 ≤ N) : σf ph (N + 1) (upd D N x') = upd (σf ph N D) (N - ph.s0) x'.stage := by
  funext i
  unfold σf
  by_cases e : i = N - ph.s0
  · subst e
    rw [upd_same, show ph.s0 + (N - ph.s0) = N by omega, if_pos (by omega), upd_same]
  · rw [upd_ne _ _ e]
    by_cases h : ph.s0 + i < N
    · rw [if_pos h, if_pos (by omega), upd_ne D _ (by omega)]
    · rw [if_neg h, if_neg (by omega)]
theorem Cb (hG : Geo ph) (I : PInv ph g A gs w t D) (h4 : g0 A = 4) (hv : g1 A < ph.n) (hbx : A.heap[bx]? = some (.cells #[val] Payload.ety (0, 0))) (hN0 : ph.N0 ≤ bx) (hkid : Kid ph child bx val (g1 A) (kidW ph.N0 bx A)) {x y : MemOp} (hx : x.g = 0 ∧ x.act = .go gs.size) (hy : y.g = gs.size ∧ y.act = .start) :
    ∃ D', PInv ph g' (handW A bx (g1 A + 1)) ((gs.setIfInBounds 0 g').push child) w (t ++ #[x, y]) D' := by
  have h := I.sta.com
  obtain ⟨st, sm, h1, h2⟩ := I.sta.md
  have hnum := I.num
  rw [h4] at h2 hnum
  have hN : gs.size = ph.s0 + g1 A := hnum.2.1 rfl
  obtain ⟨rfl, rfl, h3, _⟩ := h2.atOpn (by omega)
  have hs1 := h.s1
  have hsz0 : ∀ k b, gs.size ≤ k → ¬ (D k).ob b := fun k b hk => h.nob k (.inr hk) b
  have hk0 : 0 < gs.size := (Array.getElem?_eq_some_iff.1 I.at0).1
  have hseen : Seen A bx := ⟨(Array.getElem?_eq_some_iff.1 hbx).1, by rw [hbx]; simp [pz]⟩
  have hm : ∀ op ∈ #[x, y], op = x ∨ op = y := by intro op hop; simpa using hop
  have hst : ∀ op ∈ #[x, y], op.act ≠ .mark .disable ∧ op.act ≠ .mark .enable := by
    intro op hop
    rcases hm op hop with rfl | rfl
    · rw [hx.2]; exact ⟨by simp, by simp⟩
    · rw [hy.2]; exact ⟨by simp, by simp⟩
  have hdeaf : ∀ k, Deaf (t ++ #[x, y]) k = Deaf t k := fun k => Deaf_still t k _ hst
  obtain ⟨T, A1, he, het, hF⟩ := hkid
  have hk1 : ∀ b, Seen A1 b ↔ Seen A b ∧ (b < ph.N0 ∨ b = bx) := fun b => by rw [← Seen.ext he, H7]
  have hx1 : g0 A1 = 0 := by unfold g0; rw [← het]; rfl
  have hri : gs.size - ph.s0 = g1 A := by omega
  have hsit : Sit ph gs.size ⟨8, T, A1, A1, [], (· = bx), bx, val⟩ 8 child w 0 := by
    refine .go (by unfold FitsW; rw [hri]; exact hF) ((Tr I.sees).ext he) (Rds.ext' he fun b hb => ?_) (fun hs => I.noC ((hk1 _).1 hs).1) (fun hs => I.noWg ((hk1 _).1 hs).1) (.inl hx1) (fun b hb hs => ?_) fun b hb hs => I.low0 b hb ((hk1 b).1 hs).1
    · exact (I.rds b hb).imp (Dk hb) fun hn hs => hn (H7.1 hs).1
    · exact (((hk1 b).1 hs).2).resolve_left (by omega)
  generalize hX : (⟨8, T, A1, A1, [], (· = bx), bx, val⟩ : WS) = X at hsit
  have e8 : X.stage = 8 := by rw [← hX]
  have eA : X.A = A1 := by rw [← hX]
  have eob : ∀ b, X.ob b ↔ b = bx := fun b => by rw [← hX]
  have ebx : X.bx = bx := by rw [← hX]
  have hsz : ((gs.setIfInBounds 0 g').push child).size = gs.size + 1 := by simp
  have hge : ∀ k, 1 ≤ k → k < gs.size → ((gs.setIfInBounds 0 g').push child)[k]? = gs[k]? := fun k hk1 hk2 => by
    rw [Array.getElem?_push_lt (by simpa using hk2), ← Array.getElem?_eq_getElem, Array.getElem?_setIfInBounds_ne (by omega)]
  have hob : ∀ k b, (upd D gs.size X k).ob b → (k = gs.size ∧ b = bx) ∨ (k ≠ gs.size ∧ (D k).ob b) := fun k b hb => by
    by_cases e : k = gs.size
    · subst e; rw [upd_same] at hb; exact .inl ⟨rfl, (eob b).1 hb⟩
    · rw [upd_ne D _ e] at hb; exact .inr ⟨e, hb⟩
  have hobl : ∀ k b, (upd D gs.size X k).ob b → ph.N0 ≤ b ∧ b < w.heap.size := fun k b hb => by
    rcases hob k b hb with ⟨rfl, rfl⟩ | ⟨_, hb⟩
    · exact ⟨hN0, Nat.lt_of_lt_of_le hseen.1 I.sees.size⟩
    · exact h.obl k b hb
  have hoba : ∀ k k' b, k ≠ k' → (upd D gs.size X k).ob b → ¬ (upd D gs.size X k').ob b := fun k k' b hne hb hb' => by
    rcases hob k b hb with ⟨rfl, rfl⟩ | ⟨_, hb⟩ <;> rcases hob k' b hb' with ⟨rfl, h5⟩ | ⟨_, hb'⟩
    · exact hne rfl
    · exact I.mob k' _ hb' hseen
    · subst h5; exact I.mob k _ hb hseen
    · exact h.oba k k' b hne hb hb'
  refine ⟨upd D gs.size X, ⟨?_, ⟨⟨h.s1, by rw [hsz]; have := h.szl; omega, by rw [hsz]; omega, fun k hk1 hk2 => ?_, fun k hk1 hk2 => ?_, fun k hk b hb => ?_, fun k hk1 hk2 hk3 => ?_, fun k hk1 hk2 hk3 => ?_, hobl, hoba, fun k hk1 hk2 => ?_, h.cells, h.live, h.vis0, h.os0, h.out0, ?_, fun k hk => ?_, fun op hop => ?_, h.same⟩, _, _, h1, ?_⟩, ?_, fun b hb => ?_, fun hs => I.noC (Jy hs).1, fun hs => I.noWg (Jy hs).1, fun b hb hs => I.low0 b hb (Jy hs).1, fun k b hb hs => ?_, ?_, ?_⟩⟩
  · rw [Array.getElem?_push_lt (by simpa using hk0), ← Array.getElem?_eq_getElem]
    simp [hk0]
  · rw [hsz] at hk2
    by_cases e : k = gs.size
    · subst e
      refine ⟨child, by rw [show gs.size = (gs.setIfInBounds 0 g').size by simp, Array.getElem?_push_size], ?_⟩
      rw [upd_same, hdeaf, h.above _ (Nat.le_refl _), e8]
      exact hsit
    · obtain ⟨gk, hgk, hs⟩ := h.wk k hk1 (by omega)
      exact ⟨gk, (hge k hk1 (by omega)).trans hgk, by rw [upd_ne D _ e, hdeaf]; exact hs⟩
  · rw [upd_ne D _ (by have := h.szl; omega)]; exact h.old k hk1 hk2
  · rw [hsz] at hk
    rcases hob k b hb with ⟨rfl, rfl⟩ | ⟨_, hb⟩
    · have := h.szl; omega
    · exact h.nob k (by omega) b hb
  · rw [hsz] at hk2
    by_cases e : k = gs.size
    · subst e
      rw [upd_same, e8, eA, hx1] at hk3
      omega
    · rw [upd_ne D _ e] at hk3 ⊢; exact h.rcd k hk1 (by omega) hk3
  · rw [hsz] at hk2
    by_cases e : k = gs.size
    · subst e
      rw [upd_same, e8] at hk3
      omega
    · rw [upd_ne D _ e] at hk3
      obtain ⟨r, hr⟩ := h.rel k hk1 (by omega) hk3
      refine ⟨r, hr.appNot fun op hop => ?_⟩
      rcases hm op hop with rfl | rfl
      · rw [hx.1]; omega
      · rw [hy.1]; omega
  · rw [hsz] at hk2
    by_cases e : k = gs.size
    · subst e; rw [upd_same]; exact (eob _).2 ebx
    · rw [upd_ne D _ e]; exact h.bxo k hk1 (by omega)
  · rw [hsz]
    refine CJ.fork (Vy hG (fun k b hb => (hobl k b hb).1) hoba) h.szl (h.ct.congr fun k hk1 hk2 l => ?_) hx hy (by rw [I.deaf, h4]; rfl) (by omega)
    unfold OwnP
    rw [upd_ne D _ (by omega)]
  · rw [hsz] at hk
    rw [hdeaf]; exact h.above k (by omega)
  · rcases Array.mem_append.1 hop with h5 | h5
    · exact h.low op h5
    · rcases hm op h5 with rfl | rfl
      · rw [hx.2]; trivial
      · rw [hy.2]; trivial
  · rw [hsz, σf_push h.szl, e8]
    have hin : gs.size - ph.s0 < ph.n := by omega
    have hst9 : σf ph gs.size D (gs.size - ph.s0) = 9 := by
      unfold σf
      rw [if_neg (by omega)]
    have hV : Vc ph.n (upd (σf ph gs.size D) (gs.size - ph.s0) 8) = Vc ph.n (σf ph gs.size D) := by
      have := Lv (σf ph gs.size D) 8 hin
      rw [hst9] at this
      have c9 : cnt 9 = 1 := rfl
      have c8 : cnt 8 = 1 := rfl
      omega
    rw [← hV]
    refine Md.opn (.inr (.inl rfl)) (fun i hi => ?_) (fun e => by cases e)
    by_cases e : i = gs.size - ph.s0
    · subst e; rw [upd_same]; omega
    · rw [upd_ne _ _ e]; exact h3 i hi
  · have := Hh I.sees bx
    exact ⟨this.os, this.output, this.size, this.vis, this.nv⟩
  · rcases I.rds b hb with h5 | h5
    · obtain ⟨c, T, e, h6⟩ := h5
      exact .inl ⟨c, T, (Kb (by omega)).trans e, h6⟩
    · exact .inr fun hs => h5 (Jy hs).1
  · rcases hob k b hb with ⟨rfl, rfl⟩ | ⟨_, hb⟩
    · exact (Jy hs).2 rfl
    · exact I.mob k b hb (Jy hs).1
  · rw [hsz]
    refine ⟨fun e => ?_, fun _ => ?_, fun e => ?_⟩
    · have : (4 : Nat) ≤ 3 := e
      omega
    · show gs.size + 1 = ph.s0 + (g1 A + 1)
      omega
    · have : (5 : Nat) ≤ 4 := e
      omega
  · rw [hdeaf, I.deaf, h4]; rfl
end
end Go.Dw.J
end
section
namespace Go.Dw.J
open Go.Dw Go.RowKit
open Go.Conc (G crowd Goes Deaf QuitsD awake awake_of crowd_pick runT_crowd_go woken woken_run Deaf_other Deaf_own Aside aside_setCell Leavers Past semEvents)
open Go.ConcR (Payload WgAt KK stA smA rd wr mk ofEvent_cell)
open Go.ConcN (upd upd_same upd_ne WgLive sumTo RelBy Deaf_still)
open Go.CJ (CJ OkW Ok0)
set_option linter.unusedVariables false
set_option linter.unusedSimpArgs false
set_option linter.unusedSectionVars false
theorem L7 {g : Goroutine} (hs : g.status = .running) (ho : g.offers = none) (w : World) : ({ g with status := .blocked } : Goroutine).again w = g := by
  obtain ⟨fr, cs, stt, dy, off⟩ := g
  simp only at hs ho
  subst hs ho
  simp [Goroutine.again]
theorem C7 {n : Nat} {σ : Nat → Nat} (h : 1 ≤ Vc n σ) : ∃ i, i < n ∧ 5 ≤ σ i := by
  refine Classical.byContradiction fun hn => ?_
  have : ∀ i, i < n → (fun x => cnt (σ x)) i ≤ 0 := fun i hi => by
    have : ¬ 5 ≤ σ i := fun h5 => hn ⟨i, hi, h5⟩
    simp [cnt, this]
  have := Go.ConcN.sumTo_le this
  simp only [Vc] at h
  omega
section
variable [Payload] {ph : Ph} {g g' : Goroutine} {A A' : World}
theorem Md.atSem {n v : Nat} {σ : Nat → Nat} {st sm : Int} {s : Nat} (h : Md n σ s v st sm) (hs : s = 6) : (sm = 0 ∧ ∃ i, i < n ∧ (5 ≤ σ i ∨ σ i = 4 ∨ σ i = 3 ∨ σ i = 2)) ∨ (sm = 1 ∧ st = 0 ∧ ∀ i, i < n → σ i = 1) := by
  cases h with
  | pre h1 h2 => omega
  | opn h1 _ _ => omega
  | reg h1 h2 h3 =>
    obtain ⟨i, hi, h5⟩ := C7 h3
    exact .inl ⟨rfl, i, hi, .inl h5⟩
  | last L h1 h2 h3 h4 => exact .inl ⟨rfl, L, h2, .inr h3⟩
  | sema h1 h2 => exact .inr ⟨rfl, rfl, h2⟩
  | fin h1 _ => omega
theorem Dp (hG : Geo ph) (hn : ph.n < 2147483648) (hr : g.status = .running) (ho : g.offers = none) (h6 : g0 A = 6)
    (hb : ∀ w st, WgAt ph.ty ph.Wg w st 0 → stepG ph.P true g w = .go { g with status := .blocked } w #[])
    (ht : ∀ w st, WgAt ph.ty ph.Wg w st 1 → stepG ph.P true g w = .go g' (w.setCell (smA ph.Wg) (.int .u32 0)) (semEvents (smA ph.Wg)))
    (hnext : ∀ gs w sl t D, PInv ph g' (setT A 8 0) gs w t D → Runs ph.P ph.Post (crowd gs w sl) t) : ∀ gs w sl t D, PInv ph g A gs w t D → Runs ph.P ph.Post (crowd gs w sl) t := by
  have key : ∀ (N : Nat) (F : Nat → Sz), Acc (FamR Lo N) F →
      (∀ gs w sl t D, fam D = F → gs.size = N → PInv ph { g with status := .blocked } A gs w t D → (∃ st, WgAt ph.ty ph.Wg w st 0) → Runs ph.P ph.Post (crowd gs w sl) t) ∧
      (∀ gs w sl t D, fam D = F → gs.size = N → PInv ph g A gs w t D → Runs ph.P ph.Post (crowd gs w sl) t) := by
    intro N F hF
    induction hF with
    | intro F _ ih =>
      have other : ∀ (q : Goroutine), (q = g ∨ q = { g with status := .blocked }) → ∀ gs w sl t D i x d sl', fam D = F → gs.size = N → PInv ph q A gs w t D → 0 < i → gs[i]? = some x → x.status = .running → stepT ph.P (crowd gs w sl) = runT ph.P (crowd gs (w.at d) sl') i →
          (q = { g with status := .blocked } → ∃ st, WgAt ph.ty ph.Wg w st 0) → Runs ph.P ph.Post (crowd gs w sl) t := by
        intro q hq gs w sl t D i x d sl' hD hN I hpos hi hg hst hsm
        have I' := L6 I d
        have hlt : i < gs.size := (Array.getElem?_eq_some_iff.1 hi).1
        have hi0 : (i == 0) = false := by simp; omega
        obtain ⟨q', w', es, x', k1, k2, k3, k4, k5, k6, k7, k8, k9⟩ := C4 hG hn I'.sta hpos hlt hi hg
        have hrunT := runT_crowd_go (P := ph.P) (sl := sl') (i := i) hi (by rw [hi0]; exact k1)
        have hne : i ≠ 0 := by omega
        have hat : ((gs.map (woken ph.P x q' w')).setIfInBounds i q')[0]? = some (woken ph.P x q' w' q) := by
          rw [Array.getElem?_setIfInBounds_ne hne, Array.getElem?_map, I.at0]; rfl
        have hJ := I'.other hpos hlt hat k2 k4 k5 k6 k7 k8
        have hfam := N9 (N := N) (hN ▸ hlt) k3
        rw [hD] at hfam
        obtain ⟨IH1, IH2⟩ := ih (fam (upd D i x')) hfam
        refine Runs.step (hst.trans hrunT) ?_
        rcases hq with rfl | rfl
        · rw [woken_run hr] at hJ
          exact IH2 _ _ _ _ _ rfl (by simp [hN]) hJ
        · by_cases hw : (mayWake ph.P x && q'.status != .blocked && q'.status != .waiting) = true
          · have e : woken ph.P x q' w' { g with status := .blocked } = g := by
              unfold Go.Conc.woken
              rw [if_pos hw]
              exact L7 hr ho _
            rw [e] at hJ
            exact IH2 _ _ _ _ _ rfl (by simp [hN]) hJ
          · have e : woken ph.P x q' w' { g with status := .blocked } = { g with status := .blocked } := by
              unfold Go.Conc.woken
              rw [if_neg hw]
            rw [e] at hJ
            refine IH1 _ _ _ _ _ rfl (by simp [hN]) hJ ?_
            obtain ⟨st, sm, h1, h2⟩ := k2.md
            rw [h6] at h2
            rcases h2.atSem rfl with ⟨rfl, _⟩ | ⟨rfl, _⟩
            · exact ⟨st, h1⟩
            · rcases k9 ⟨st, h1⟩ with ⟨st2, h3⟩ | ⟨h3, h4⟩
              · obtain ⟨st3, h5⟩ := hsm rfl
                have h5' : WgAt ph.ty ph.Wg (w.at d) st3 0 := h5
                have := (h3.unique h5').2
                omega
              · exact absurd (by rw [h3, h4]; rfl) hw
      have blk : ∀ gs w sl t D, fam D = F → gs.size = N → PInv ph { g with status := .blocked } A gs w t D → (∃ st, WgAt ph.ty ph.Wg w st 0) → Runs ph.P ph.Post (crowd gs w sl) t := by
        intro gs w sl t D hD hN I hsm
        have hsome : ∃ (i : Nat) (x : Goroutine), gs[i]? = some x ∧ x.status = .running := by
          obtain ⟨st, sm, h1, h2⟩ := I.sta.md
          rw [h6] at h2
          obtain ⟨st3, h5⟩ := hsm
          have hgsz := I.num.2.2 (by omega)
          rcases h2.atSem rfl with ⟨rfl, i, hi, hσ⟩ | ⟨rfl, _⟩
          · have e : σf ph gs.size D i = (D (ph.s0 + i)).stage := by unfold σf; rw [if_pos (by omega)]
            rw [e] at hσ
            have hs1 := I.sta.com.s1
            obtain ⟨x, hx, hs⟩ := I.sta.com.wk (ph.s0 + i) (by omega) (by omega)
            exact ⟨_, x, hx, hs.status.resolve_right fun h => by omega⟩
          · have := (h1.unique h5).2
            omega
        obtain ⟨i, x, d, sl', hi, hg, hst⟩ := crowd_pick (P := ph.P) (w := w) (sl := sl) (W8 I.sta.com I.at0 (awake_of (.inr (.inl rfl)))) hsome
        rcases Nat.eq_zero_or_pos i with rfl | hpos
        · rw [I.at0] at hi
          cases hi
          cases hg
        · exact other _ (.inr rfl) gs w sl t D i x d sl' hD hN I hpos hi hg hst fun _ => hsm
      refine ⟨blk, fun gs w sl t D hD hN I => ?_⟩
      obtain ⟨i, x, d, sl', hi, hg, hst⟩ := crowd_pick (P := ph.P) (w := w) (sl := sl) (W8 I.sta.com I.at0 (awake_of (.inl hr))) ⟨0, g, I.at0, hr⟩
      rcases Nat.eq_zero_or_pos i with rfl | hpos
      · rw [I.at0] at hi
        obtain rfl := Option.some.inj hi
        have I' := L6 I d
        obtain ⟨st, sm, h1, h2⟩ := I'.sta.md
        have h2' := h2
        rw [h6] at h2'
        rcases h2'.atSem rfl with ⟨rfl, _⟩ | ⟨rfl, rfl, h3⟩
        · have hrunT := runT_crowd_go (P := ph.P) (sl := sl') (i := 0) I.at0 (show stepG ph.P (0 == 0) g (w.at d) = _ from hb _ _ h1)
          refine Runs.step (hst.trans hrunT) (blk _ _ _ _ D hD (by simp [hN]) (Ws hG I' (.refl _ _) h1 rfl rfl rfl (fun e he => by simp at he) (by simp [deafBehind]) h2 I'.num) ⟨_, h1⟩)
        · have hrunT := runT_crowd_go (P := ph.P) (sl := sl') (i := 0) I.at0 (show stepG ph.P (0 == 0) g (w.at d) = _ from ht _ _ h1)
          have hnum := I'.num
          rw [h6] at hnum
          refine Runs.step (hst.trans hrunT) (hnext _ _ _ _ D (I'.set hG (aside_setCell _ (smA ph.Wg) _) (h1.setSm 0) (fun e he => ?_) (by rw [h6]; rfl) (.fin (.inl rfl) h3) ⟨fun e => by omega, fun e => by omega, fun _ => hnum.2.2 (by omega)⟩))
          simp [semEvents] at he
          rcases he with rfl | rfl | rfl | rfl
          · exact .disable
          · exact .cell _ _ rfl
          · exact .cell _ _ rfl
          · exact .enable
      · exact other _ (.inl rfl) gs w sl t D i x d sl' hD hN I hpos hi hg hst fun e => by
          have : g.status = .blocked := by rw [e]
          rw [hr] at this; cases this
  exact fun gs w sl t D I => (key gs.size (fam D) (He Lo Bz gs.size _)).2 gs w sl t D rfl rfl I
end
end Go.Dw.J
end
section
namespace Go.Dw.J
open Go.Dw Go.RowKit
open Go.Conc (G crowd Goes Deaf QuitsD awake awake_of crowd_pick runT_crowd_go runT_crowd_spawn woken woken_run Deaf_other Deaf_own Aside aside_setCell Leavers Past semEvents)
open Go.ConcR (Payload WgAt KK stA smA rd wr mk ofEvent_cell)
open Go.ConcN (upd upd_same upd_ne WgLive sumTo RelBy Deaf_still)
open Go.CJ (CJ OkW Ok0)
set_option linter.unusedVariables false
set_option linter.unusedSimpArgs false
set_option linter.unusedSectionVars false
theorem Tj [KeepD] {P : Program} {Post : Value → World → Prop} {g : Goroutine} {A : World} (hr : g.status = .running) (h : ∀ w, Sees A w → ∃ g' A' w' es, stepG P true g w = .go g' w' es ∧ Sees A' w' ∧ (A'.tape = A.tape ∧ Turns A w A' w' ∧ ∀ e ∈ es, EvOk A' e) ∧ Bes P Post g' A') : Bes P Post g A :=
  (@Closed.step (comp0 fun _ => True) _ _ (Ku (fun _ => True) trivial)) g A ⟨hr, fun w hs _ => let ⟨g', A', w', es, h1, h2, h3, h4⟩ := h w hs; ⟨g', A', w', es, h1, h2, .inl h3, h4⟩⟩
theorem Da [KeepD] {P : Program} {Post : Value → World → Prop} {g : Goroutine} {A A1 : World} (he : Ext A A1) (ht : A1.tape = A.tape) (h : Bes P Post g A) : Bes P Post g A1 := (@Closed.ext (comp0 fun _ => True) _ _ (Ku (fun _ => True) trivial)) g A A1 he ht h
section
variable [Payload] [KeepD]
structure OkP (ph : Ph) (J : Goroutine → World → Prop) : Prop where
  go : ∀ (g g' child : Goroutine) (A : World) (bx : Nat) (val : Value), g.status = .running → g0 A = 4 → g1 A < ph.n → A.heap[bx]? = some (.cells #[val] Payload.ety (0, 0)) → ph.N0 ≤ bx → (∀ w, stepG ph.P true g w = .spawn g' child w #[]) → Kid ph child bx val (g1 A) (kidW ph.N0 bx A) → J g' (handW A bx (g1 A + 1)) → J g A
  sema : ∀ (g g' : Goroutine) (A : World), g.status = .running → g.offers = none → g0 A = 6 → (∀ w st, WgAt ph.ty ph.Wg w st 0 → stepG ph.P true g w = .go { g with status := .blocked } w #[]) → (∀ w st, WgAt ph.ty ph.Wg w st 1 → stepG ph.P true g w = .go g' (w.setCell (smA ph.Wg) (.int .u32 0)) (semEvents (smA ph.Wg))) → J g' (setT A 8 0) → J g A
@[instance_reducible] def compP (ph : Ph) : Comp where
  main := true
  inv A w := (g0 A = 2 → WgAt ph.ty ph.Wg w 0 0) ∧ (g0 A = 5 → ∃ v : Nat, v ≤ g1 A ∧ WgAt ph.ty ph.Wg w (v * KK) 0) ∧ (g0 A = 8 → WgAt ph.ty ph.Wg w 0 0) ∧ (g0 A = 9 → ∃ A', Fin ph A' w) ∧ (g0 A ≠ 0 → WgLive ph.ty ph.Wg w)
  sp := SpP ph
  ok := OkP ph
def JP (ph : Ph) (g : Goroutine) (A : World) : Prop := (g0 A = 0 → Bes ph.P ph.Post g A) ∧ (g0 A ≠ 0 → ∀ gs w sl t D, PInv ph g A gs w t D → Runs ph.P ph.Post (crowd gs w sl) t)
variable {ph : Ph} {g g' : Goroutine} {A A' : World} {gs : Array Goroutine} {w w' : World} {t : Trace} {D : Nat → WS} {es : Array Event}
theorem U2 {A A1 : World} (ht : A1.tape = A.tape) : g0 A1 = g0 A := by unfold g0; rw [ht]
theorem Bf {A A1 : World} (ht : A1.tape = A.tape) : g1 A1 = g1 A := by unfold g1; rw [ht]
theorem B8 {A1 : World} (he : Ext A A1) (ht : A1.tape = A.tape) (I : PInv ph g A1 gs w t D) : PInv ph g A gs w t D :=
  ⟨I.at0, by rw [← U2 ht, ← Bf ht]; exact I.sta, I.sees.ext he, I.rds.ext' he, fun hs => I.noC ((Seen.ext he).2 hs), fun hs => I.noWg ((Seen.ext he).2 hs), fun b hb hs => I.low0 b hb ((Seen.ext he).2 hs), fun k b hb hs => I.mob k b hb ((Seen.ext he).2 hs), by rw [← U2 ht, ← Bf ht]; exact I.num, by rw [← U2 ht]; exact I.deaf⟩
theorem B9 (hG : Geo ph) (I : PInv ph g A gs w t D) : (compP ph).inv A w := by
  obtain ⟨st, sm, h1, h2⟩ := I.sta.md
  refine ⟨fun e => ?_, fun e => ?_, fun e => ?_, fun e => ?_, fun _ => ⟨st, sm, h1⟩⟩
  · obtain ⟨rfl, rfl, _⟩ := h2.atPre (by omega); exact h1
  · obtain ⟨rfl, rfl, _, h3⟩ := h2.atOpn (by omega)
    exact ⟨_, h3 e, h1⟩
  · obtain ⟨rfl, rfl, _⟩ := h2.atFin (by omega); exact h1
  · obtain ⟨rfl, rfl, h3⟩ := h2.atFin (by omega)
    exact ⟨_, E9 hG I.sta.com (I.num.2.2 (by omega)) h3⟩
theorem I6 (hG : Geo ph) (hn : ph.n < 2147483648) : OkP ph (JP ph) := by
  refine ⟨fun g g' child A bx val hr h4 hv hbx hN hst hkid hJ => ⟨fun h0 => by omega, fun _ => B7 hG hn hr fun gs w sl t D I => ?_⟩, fun g g' A hr ho h6 hb ht hJ => ⟨fun h0 => by omega, fun _ => Dp hG hn hr ho h6 hb ht (hJ.2 (by rw [Ko]; omega))⟩⟩
  have hrunT := runT_crowd_spawn (P := ph.P) (sl := sl) (i := 0) I.at0 (show stepG ph.P (0 == 0) g w = _ from hst w)
  have e : ((MemOp.ofEvents 0 g.frame.fn g.frame.place #[]).push { g := 0, fn := g.frame.fn, pos := g.frame.place, act := .go gs.size }).push { g := gs.size, fn := child.frame.fn, pos := g.frame.place, act := .start } = #[({ g := 0, fn := g.frame.fn, pos := g.frame.place, act := .go gs.size } : MemOp), { g := gs.size, fn := child.frame.fn, pos := g.frame.place, act := .start }] := by
    rw [Go.Conc.ofEvents_none]; rfl
  rw [e] at hrunT
  obtain ⟨D', hI'⟩ := Cb (g' := g') (child := child) hG I h4 hv hbx hN hkid (x := { g := 0, fn := g.frame.fn, pos := g.frame.place, act := .go gs.size }) (y := { g := gs.size, fn := child.frame.fn, pos := g.frame.place, act := .start }) ⟨rfl, rfl⟩ ⟨rfl, rfl⟩
  exact .inl ⟨_, _, hrunT, hJ.2 (by rw [show g0 (handW A bx (g1 A + 1)) = 4 from rfl]; omega) _ _ _ _ _ hI'⟩
theorem Tq (hG : Geo ph) (hK : KeepP ph) (hn : ph.n < 2147483648) : @Closed (compP ph) ph.P (JP ph) := by
  letI := compP ph
  refine ⟨fun g A ⟨hr, h⟩ => ⟨fun h0 => ?_, fun h0 => B7 hG hn hr fun gs w sl t D I => ?_⟩, fun g A A1 he ht hJ => ⟨fun h0 => ?_, fun h0 gs w sl t D I => hJ.2 (by rw [← U2 ht]; exact h0) gs w sl t D (B8 he ht I)⟩, I6 hG hn⟩
  · refine Tj hr fun w hs => ?_
    obtain ⟨g', A', w', es, h1, h2, h3, h4⟩ := h w hs ⟨fun e => by omega, fun e => by omega, fun e => by omega, fun e => by omega, fun e => absurd h0 e⟩
    rcases h3 with ⟨e1, e2, e3⟩ | h3
    · exact ⟨g', A', w', es, h1, h2, ⟨e1, e2, e3⟩, h4.1 (by rw [U2 e1]; exact h0)⟩
    · exact absurd h0 (by cases h3 <;> omega)
  · obtain ⟨g', A', w', es, h1, h2, h3, h4⟩ := h w I.sees (B9 hG I)
    have hrunT := runT_crowd_go (P := ph.P) (sl := sl) (i := 0) I.at0 (show stepG ph.P (0 == 0) g w = _ from h1)
    rcases h3 with ⟨e1, e2, e3⟩ | h3
    · exact .inl ⟨_, _, hrunT, h4.2 (by rw [U2 e1]; exact h0) _ _ _ _ _ (Ca hG I h2 e1 e2 e3)⟩
    · by_cases h9 : g0 A = 9
      · cases h3 with
        | acquire e1 hF e3 e4 =>
          subst e3 e4
          obtain ⟨q, hB⟩ := R7 (g' := g') hG hK I h9 hF
          exact .inl ⟨_, _, hrunT, h4.1 (by unfold g0; rw [hF.tape]; rfl) _ _ _ _ q _ hB⟩
        | disable e1 => omega
        | add e1 => omega
        | read e1 => omega
        | enable e1 => omega
        | disable2 e1 => omega
        | load0 e1 => omega
        | load v e1 => omega
        | hit v e1 => omega
        | write e1 => omega
        | load2 e1 => omega
        | enable2 e1 => omega
      · obtain ⟨k1, k2⟩ := I7 (g' := g') hG I h3 h9
        exact .inl ⟨_, _, hrunT, h4.2 k1 _ _ _ _ D k2⟩
  · exact Da he ht (hJ.1 (by rw [← U2 ht]; exact h0))
end
end Go.Dw.J
end
section
namespace Go.Dw.J
open Go.Dw Go.RowKit
open Go.Conc (G crowd Goes Deaf QuitsD awake awake_of crowd_pick runT_crowd_go runT_crowd_spawn woken woken_run woken_quitsD Deaf_other Deaf_own Aside aside_setCell Leavers Past semEvents)
open Go.ConcR (Payload WgAt wgBlock KK stA smA rd wr mk ofEvent_cell)
open Go.ConcN (upd upd_same upd_ne WgLive sumTo RelBy Deaf_still)
open Go.CJ (CJ OkW Ok0)
set_option linter.unusedVariables false
set_option linter.unusedSimpArgs false
set_option linter.unusedSectionVars false
def roO : Obj → Obj
  | .cells c T fr => if c.size = 0 then pz else ro c T
  | _ => pz
theorem Pw {o : Obj} (h : roO o ≠ pz) : ∃ c T fr, o = .cells c T fr ∧ 0 < c.size ∧ roO o = ro c T := by
  cases o with
  | cells c T fr =>
    by_cases h0 : c.size = 0
    · exact absurd (by simp [roO, h0]) h
    · exact ⟨c, T, fr, rfl, by omega, by simp [roO, h0]⟩
  | _ => exact absurd rfl h
def padW (A : World) (N : Nat) : World := { A with heap := A.heap ++ Array.replicate (N - A.heap.size) pz }
theorem Wo (A : World) (N : Nat) : Ext A (padW A N) := ⟨_, rfl, rfl, rfl⟩
theorem La {A : World} {N : Nat} (h : A.heap.size ≤ N) : (padW A N).heap.size = N := by simp [padW]; omega
def startW (A0 : World) (C : Nat) : World := { A0 with heap := (A0.heap.mapIdx fun b o => if b = C then pz else roO o).push pz, tape := mkT [1, 0] }
section
variable {A0 w : World} {C : Nat}
theorem Vs : (startW A0 C).heap.size = A0.heap.size + 1 := by simp [startW]
theorem Ut {b : Nat} {o : Obj} (h : A0.heap[b]? = some o) : (startW A0 C).heap[b]? = some (if b = C then pz else roO o) := by
  have hb := (Array.getElem?_eq_some_iff.1 h).1
  unfold startW
  rw [Array.getElem?_push_lt (by simpa using hb), ← Array.getElem?_eq_getElem, Array.getElem?_mapIdx, h]
  rfl
theorem U7 : (startW A0 C).heap[A0.heap.size]? = some pz := by
  unfold startW
  rw [show A0.heap.size = (A0.heap.mapIdx fun b o => if b = C then pz else roO o).size by simp, Array.getElem?_push_size]
theorem K5 {b : Nat} (h : Seen (startW A0 C) b) : b < A0.heap.size ∧ b ≠ C ∧ Seen A0 b ∧ Ro (startW A0 C) b := by
  obtain ⟨h1, h2⟩ := h
  rw [Vs] at h1
  rcases Nat.lt_or_ge b A0.heap.size with hb | hb
  · have e := Array.getElem?_eq_getElem hb
    rw [Ut e] at h2
    by_cases hC : b = C
    · subst hC; simp at h2
    · rw [if_neg hC] at h2
      obtain ⟨c, T, fr, h3, h4, h5⟩ := Pw (fun e => h2 (by rw [e]))
      refine ⟨hb, hC, ⟨hb, ?_⟩, c, T, ?_, h4⟩
      · rw [e, h3]
        intro e2
        simp [pz] at e2
        rw [e2.1] at h4; simp at h4
      · rw [Ut e, if_neg hC, h5]
  · obtain rfl : b = A0.heap.size := by omega
    exact absurd U7 h2
theorem Mq {x y : Obj} (h : Vis (some x) (some y)) : Vis (some (roO x)) (some y) := by
  by_cases hx : roO x = pz
  · exact .inr (.inl (by rw [hx]))
  · obtain ⟨c, T, fr, rfl, h2, h3⟩ := Pw hx
    rw [h3]
    rcases h with h | h | ⟨c', T', fr', h, h'⟩
    · cases h; exact .inr (.inr ⟨c, T, fr, rfl, rfl⟩)
    · simp [pz] at h
      rw [h.1] at h2; simp at h2
    · simp [ro] at h
      obtain ⟨rfl, rfl, _⟩ := h
      exact .inr (.inr ⟨_, _, fr', rfl, h'⟩)
theorem Sk (h : Sees A0 w) (hs : A0.heap.size + 1 ≤ w.heap.size) : Sees (startW A0 C) w := by
  refine ⟨h.os, h.output, by rw [Vs]; exact hs, fun b hb => ?_, fun b at_ u e => ?_⟩
  · rw [Vs] at hb
    rcases Nat.lt_or_ge b A0.heap.size with h1 | h1
    · have e := Array.getElem?_eq_getElem h1
      rw [Ut e]
      by_cases hC : b = C
      · rw [if_pos hC]; exact .inr (.inl rfl)
      · rw [if_neg hC]
        have := h.vis b h1
        rw [e] at this
        obtain ⟨y, hy⟩ : ∃ y, w.heap[b]? = some y := ⟨_, Array.getElem?_eq_getElem (by omega)⟩
        rw [hy] at this ⊢
        exact Mq this
    · obtain rfl : b = A0.heap.size := by omega
      rw [U7]; exact .inr (.inl rfl)
  · have hb := (Array.getElem?_eq_some_iff.1 e).1
    by_cases hse : Seen (startW A0 C) b
    · obtain ⟨_, _, _, c, T, h3, _⟩ := K5 hse
      rw [h3] at e; simp [ro] at e
    · have : (startW A0 C).heap[b]? = some pz := Classical.byContradiction fun hn => hse ⟨hb, hn⟩
      rw [this] at e; simp [pz] at e
end
section
variable [Payload] [KeepD]
theorem Ti {P : Program} {Post : Value → World → Prop} {g : Goroutine} {A : World} (hr : g.status = .running) {ty : TypeId} {n C sz : Nat} {TT : TypeId} {Out : Nat → List Value → World → Prop} (g' : Nat → Goroutine)
    (hst : ∀ w, stepG P true g w = .go (g' w.heap.size) (w.alloc (wgBlock ty 0 0)) #[]) (hC : Seen A C) (hCB : KeepD.B0 ≤ C) (hCn : n ≠ 0 → ∃ cs, A.heap[C]? = some (.cells cs TT (0, 0)) ∧ cs.size = n * sz ∧ 0 < cs.size)
    (hmono : ∀ i vs (B B' : World), (∀ b T c, Seen B b → RBlk B b T c → RBlk B' b T c) → Out i vs B → Out i vs B')
    (h : ∀ Wg s0 Shun W0, A.heap.size ≤ Wg → Geo ⟨P, Post, ty, n, C, sz, TT, Out, Wg, s0, Shun, padW A Wg, W0⟩ → KeepP ⟨P, Post, ty, n, C, sz, TT, Out, Wg, s0, Shun, padW A Wg, W0⟩ → JP ⟨P, Post, ty, n, C, sz, TT, Out, Wg, s0, Shun, padW A Wg, W0⟩ (g' Wg) (startW (padW A Wg) C)) : Bes P Post g A := by
  refine G9 hr fun gs w sl t q Shun I => ?_
  have hA : A.heap.size ≤ w.heap.size := I.sees.size
  have hpad : (padW A w.heap.size).heap.size = w.heap.size := La hA
  have hext := Wo A w.heap.size
  have hnvA : ∀ (b : Nat) (at_ : Addr) (u : TypeId), (padW A w.heap.size).heap[b]? ≠ some (.view at_ u) := fun b at_ u e => by
    have hb := (Array.getElem?_eq_some_iff.1 e).1
    rcases Nat.lt_or_ge b A.heap.size with h1 | h1
    · rw [hext.get h1] at e; exact I.sees.nv _ _ _ e
    · rw [hext.new h1 hb] at e; cases e
  have hG : Geo ⟨P, Post, ty, n, C, sz, TT, Out, w.heap.size, gs.size, Shun, padW A w.heap.size, w⟩ :=
    ⟨Nat.lt_of_lt_of_le hC.1 hA, (Seen.ext hext).2 hC, hpad, fun l b hl hb => ⟨(I.hid l b hl hb).1, fun hs => (I.hid l b hl hb).2 ((Seen.ext hext).1 hs)⟩, I.lies, hnvA, hmono⟩
  have hK : KeepP ⟨P, Post, ty, n, C, sz, TT, Out, w.heap.size, gs.size, Shun, padW A w.heap.size, w⟩ := by
    refine ⟨I.keep.1, hCB, fun b hb => ?_⟩
    rcases I.keep.2 b hb with ⟨h1, h2⟩ | ⟨h1, h2⟩
    · exact .inl ⟨(Seen.ext hext).2 h1, (hext.get h1.1).trans h2⟩
    · exact .inr ⟨fun hs => h1 ((Seen.ext hext).1 hs), h2⟩
  have hJ := (h w.heap.size gs.size Shun w hA hG hK).2 (by show (1 : Nat) ≠ 0; omega)
  have hrunT := runT_crowd_go (P := P) (sl := sl) (i := 0) I.at0 (show stepG P (0 == 0) g w = _ from hst w)
  have hk : 0 < gs.size := (Array.getElem?_eq_some_iff.1 I.at0).1
  rw [Go.Conc.ofEvents_none] at hrunT
  have hwn : ∀ b, b < w.heap.size → (w.alloc (wgBlock ty 0 0)).heap[b]? = w.heap[b]? := fun b hb => by
    unfold World.alloc
    rw [Array.getElem?_push_lt hb, ← Array.getElem?_eq_getElem]
  have hwW : (w.alloc (wgBlock ty 0 0)).heap[w.heap.size]? = some (wgBlock ty 0 0) := by unfold World.alloc; exact Array.getElem?_push_size
  have hws : (w.alloc (wgBlock ty 0 0)).heap.size = w.heap.size + 1 := by show (w.heap.push _).size = _; rw [Array.size_push]
  refine .inl ⟨_, _, hrunT, ?_⟩
  rw [show t ++ (#[] : Trace) = t by simp]
  have hsz : ((gs.map (woken P g (g' w.heap.size) (w.alloc (wgBlock ty 0 0)))).setIfInBounds 0 (g' w.heap.size)).size = gs.size := by simp
  have hsees0 : Sees (padW A w.heap.size) (w.alloc (wgBlock ty 0 0)) := by
    refine ⟨I.sees.os, I.sees.output, by rw [hpad, hws]; omega, fun b hb => ?_, hnvA⟩
    rw [hpad] at hb
    rw [hwn b hb]
    rcases Nat.lt_or_ge b A.heap.size with h1 | h1
    · rw [hext.get h1]; exact I.sees.vis b h1
    · rw [hext.new h1 (by rw [hpad]; exact hb)]; exact .inr (.inl rfl)
  refine hJ _ _ _ _ (fun k => ⟨1, chain (q k), default, default, [], fun _ => False, 0, undef⟩) ⟨by simp [hk], ⟨⟨hk, by rw [hsz]; exact Nat.le_refl _, by rw [hsz]; exact Nat.le_add_right _ _, fun k hk1 hk2 => ?_, fun _ _ _ => rfl, fun _ _ _ hb => hb, fun k hk1 hk2 => ?_, fun k hk1 hk2 => ?_, fun _ _ hb => hb.elim, fun _ _ _ _ hb => hb.elim, fun k hk1 hk2 => ?_, fun hn0 => ?_, ⟨0, 0, hwW⟩, fun b hb hbC => ?_, I.sees.os, I.sees.output, ?_, fun k hk1 => ?_, fun op hop => ?_, fun b hb _ => hwn b hb⟩, 0, 0, hwW, .pre (.inl rfl) fun i hi => ?_⟩, Sk hsees0 (by rw [hpad, hws]; exact Nat.le_refl _), fun b hb => ?_, fun hs => (K5 hs).2.1 rfl, fun hs => ?_, fun b hb hs => (K5 hs).2.2.1, fun k b hb => hb.elim, ⟨fun _ => hsz, fun e => ?_, fun e => ?_⟩, I.past.hears⟩
  · rw [hsz] at hk2
    obtain ⟨x, hx⟩ : ∃ x, gs[k]? = some x := ⟨_, Array.getElem?_eq_getElem hk2⟩
    have hq := I.old.old k x hk1 hx
    refine ⟨x, ?_, .quit rfl hq⟩
    rw [Array.getElem?_setIfInBounds_ne (by omega), Array.getElem?_map, hx, Option.map_some, woken_quitsD hq]
  · rw [hsz] at hk2
    have : gs.size ≤ k := hk1
    omega
  · rw [hsz] at hk2
    have : gs.size ≤ k := hk1
    omega
  · rw [hsz] at hk2
    have : gs.size ≤ k := hk1
    omega
  · obtain ⟨cs, h1, h2, h3⟩ := hCn hn0
    refine ⟨cs, ?_, h2⟩
    have hv := I.sees.vis C hC.1
    rw [h1] at hv
    show (w.alloc (wgBlock ty 0 0)).heap[C]? = _
    rw [hwn C (Nat.lt_of_lt_of_le hC.1 hA)]
    rcases hv with h4 | h4 | ⟨c, T, fr, h4, h5⟩
    · exact h4.symm
    · simp [pz] at h4
      rw [h4.1] at h3; simp at h3
    · simp [ro] at h4
      obtain ⟨rfl, _, h6⟩ := h4
      omega
  · have := hsees0.vis b (by rw [hpad]; exact hb)
    exact this
  · rw [hsz]
    refine CJ.start I.past I.quiet I.gsz (fun l hl => ?_) (fun l hl => .inl hl) (Nat.le_refl _)
    rcases hl with hl | hl
    · exact .inl hl
    · refine .inr fun hlow => ?_
      have h9 : w.heap.size < w.heap.size := S3 hl hlow
      omega
  · rw [hsz] at hk1
    exact I.old.above k hk1
  · exact MemAct.low_mono (by rw [hws]; omega) (I.past.seen op hop)
  · unfold σf
    rw [hsz, if_neg (by show ¬ gs.size + i < gs.size; omega)]
  · by_cases hs : Seen (startW (padW A w.heap.size) C) b
    · exact .inl (K5 hs).2.2.2
    · exact .inr hs
  · have := (K5 hs).1
    rw [hpad] at this
    exact absurd this (Nat.lt_irrefl _)
  · have : (1 : Nat) = 4 := e
    omega
  · have : (5 : Nat) ≤ 1 := e
    omega
end
end Go.Dw.J
end
section
namespace Go.Dw.J
open Go.RowKit Go.Dw Go.Proofs
set_option maxRecDepth 100000
abbrev link : Go.Conc.Lib.WgLink := { add := 39, done := 41, wait := 43, relMerge := 73, disable := 74, enable := 75, inBubble := 76, associate := 77, fatal := 78, uOr := 79, uAdd := 80, raceRead := 81, uLoad := 82, uStore := 83, disassociate := 84, semrelease := 85, acquire := 87, isAssociated := 88, uCas := 89, raceWrite := 90, semacquire := 91, orU64 := 112, addU64 := 113, loadU64 := 114, storeU64 := 115, casU64 := 117, tWgP := 102, tUP := 104, tAssoc := 106, tWg := 70, tAU := 67, tU64 := 65, tUint := 79, tU32 := 68, tPU32 := 110, tPAU := 131, tPU64 := 133, tNoCopy := 62, tANoCopy := 63, tAlign64 := 64 }
theorem Od : Go.Conc.Lib.WgLib Try.prog link :=
  ⟨Try.func39, Try.func41, Try.func43, Try.func73, Try.func74, Try.func75, Try.func76, Try.func77, Try.func78, Try.func79, Try.func80, Try.func81, Try.func82, Try.func83, Try.func84, Try.func85, Try.func87, Try.func88, Try.func89, Try.func90, Try.func91, Try.func112, Try.func113, Try.func114, Try.func115, Try.func117, Try.underlying102, Try.runUnderlying102, Try.sizeOf102, Try.isAgg102, Try.zeroValue102, Try.underlying104, Try.runUnderlying104, Try.sizeOf104, Try.isAgg104, Try.zeroValue104, Try.underlying106, Try.runUnderlying106, Try.sizeOf106, Try.isAgg106, Try.zeroValue106, Try.underlying70, Try.runUnderlying70, Try.sizeOf70, Try.isAgg70, Try.zeroValue70, Try.underlying67, Try.runUnderlying67, Try.sizeOf67, Try.isAgg67, Try.zeroValue67, Try.underlying65, Try.runUnderlying65, Try.sizeOf65, Try.isAgg65, Try.zeroValue65, Try.underlying79, Try.runUnderlying79, Try.sizeOf79, Try.isAgg79, Try.zeroValue79, Try.underlying68, Try.runUnderlying68, Try.sizeOf68, Try.isAgg68, Try.zeroValue68, Try.underlying110, Try.runUnderlying110, Try.sizeOf110, Try.isAgg110, Try.zeroValue110, Try.underlying131, Try.runUnderlying131, Try.sizeOf131, Try.isAgg131, Try.zeroValue131, Try.underlying133, Try.runUnderlying133, Try.sizeOf133, Try.isAgg133, Try.zeroValue133, Try.underlying0, Try.runUnderlying0, Try.sizeOf0, Try.isAgg0, Try.zeroValue0, Try.underlying3, Try.runUnderlying3, Try.sizeOf3, Try.isAgg3, Try.zeroValue3, Try.underlying4, Try.runUnderlying4, Try.sizeOf4, Try.isAgg4, Try.zeroValue4, Try.underlying9, Try.runUnderlying9, Try.sizeOf9, Try.isAgg9, Try.zeroValue9, Try.underlying20, Try.runUnderlying20, Try.sizeOf20, Try.isAgg20, Try.zeroValue20, Try.underlying21, Try.runUnderlying21, Try.sizeOf21, Try.isAgg21, Try.zeroValue21, (by kernel_rfl), (by kernel_rfl)⟩
end Go.Dw.J
end
section
namespace Go.Dw.J
open Go.RowKit Go.Dw Go.Proofs
open Go.Conc (G Goes QuitsD aside_setCell Aside semEvents)
open Go.ConcR (Payload WgAt wgBlock KK stA smA rd wr mk)
open Go.ConcR.Gen
open Go.ConcN (WgLive)
set_option linter.unusedSectionVars false
set_option linter.unusedSimpArgs false
set_option linter.unusedVariables false
set_option maxRecDepth 100000
section
variable [Payload] {ph : Ph} {A : World}
theorem Jq {A w w' : World} (h : Sees A w) (s v : Nat) : Sees (setT A s v) w := ⟨h.os, h.output, h.size, h.vis, h.nv⟩
theorem G6 {ph : Ph} {A w w' : World} (h : Sees A w) (hn : ¬ Seen A ph.Wg) (hA : Aside ph.Wg w w') : Sees A w' := h.still hA.os hA.output (Nat.le_of_eq hA.size.symm) fun b hb => hA.block b fun e => hn (e ▸ hb)
theorem evt (x : Event) (hs : x.sync = true) (hx : ∀ g, x.loc ≠ .mark (.extern g)) : ∀ y ∈ (#[x] : Array Event), y.sync = true ∧ ∀ g, y.loc ≠ .mark (.extern g) := fun y hy => by
  simp at hy; subst hy; exact ⟨hs, hx⟩
theorem Hc {k : FuncId} {fn : Func} {args : Array Value} {m : Mark} {A' : World} (hf : Try.prog.funcs[k]? = some fn) (hname : (fn.name == "runtime.NumGoroutine") = false) (hb : fn.body.isNone = true) (hn : Extern.findNext fn = none) {e : Array Value → Sem Value} (he : Extern.find fn = some e)
    (hm : ∀ g, m ≠ .extern g) (hr : ∀ w, (e args).run Try.prog w = .ok (.tuple #[]) w) (hev : ∀ w es, (e args).events Try.prog w es = es.push (mk m)) (hsee : ∀ w, Sees A w → Sees A' w) (hsp : ∀ w, SpP ph A w A' w #[mk m]) : @EntryR (compP ph) Try.prog k args A (fun v B => v = .tuple #[] ∧ B = A') := by
  letI := compP ph
  refine Jw hf hname hb hn he fun w h1 h2 => ⟨.tuple #[], A', w, #[mk m], hr w, by rw [hev]; rfl, evt _ rfl (fun g h => hm g (by simpa [mk] using h)), hsee w h1, .inr (hsp w), rfl, rfl⟩
theorem Rs (h : g0 A = 1) : @EntryR (compP ph) Try.prog 74 #[] A (fun v B => v = .tuple #[] ∧ B = setT A 2 0) :=
  Hc (m := .disable) Try.func74 (x_disable_n link) (x_disable_b link) (x_disable_x link) (x_disable_f link) (by simp) (fun w => by simp [Extern.Race.none_]) (fun w es => by simp [mk]) (fun w h => Jq (w' := w) h 2 0) fun w => .disable h rfl rfl rfl
theorem Ru (h : g0 A = 4) (h1 : g1 A = ph.n) : @EntryR (compP ph) Try.prog 74 #[] A (fun v B => v = .tuple #[] ∧ B = setT A 5 ph.n) :=
  Hc (m := .disable) Try.func74 (x_disable_n link) (x_disable_b link) (x_disable_x link) (x_disable_f link) (by simp) (fun w => by simp [Extern.Race.none_]) (fun w es => by simp [mk]) (fun w h => Jq (w' := w) h 5 ph.n) fun w => .disable2 h h1 rfl rfl rfl
theorem H5 (h : g0 A = 8) : @EntryR (compP ph) Try.prog 75 #[] A (fun v B => v = .tuple #[] ∧ B = setT A 9 0) :=
  Hc (m := .enable) Try.func75 (x_enable_n link) (x_enable_b link) (x_enable_x link) (x_enable_f link) (by simp) (fun w => by simp [Extern.Race.none_]) (fun w es => by simp [mk]) (fun w h => Jq (w' := w) h 9 0) fun w => .enable2 h rfl rfl rfl
theorem E6 (h : g0 A = 3) : @EntryR (compP ph) Try.prog 81 #[.pointer (some ⟨ph.Wg, 1, none⟩)] A (fun v B => v = .tuple #[] ∧ B = A) :=
  Hc (m := .read (smA ph.Wg)) Try.func81 (x_raceRead_n link) (x_raceRead_b link) (x_raceRead_x link) (x_raceRead_f link) (by simp) (fun w => by simp [Extern.Race.marked, Extern.Race.at_, Extern.Race.none_]) (fun w es => by simp [Extern.Race.marked, Extern.Race.at_, mk, smA]) (fun w h => h) fun w => .read h rfl rfl rfl
theorem De (h : g0 A = 6) : @EntryR (compP ph) Try.prog 90 #[.pointer (some ⟨ph.Wg, 1, none⟩)] A (fun v B => v = .tuple #[] ∧ B = A) :=
  Hc (m := .write (smA ph.Wg)) Try.func90 (x_raceWrite_n link) (x_raceWrite_b link) (x_raceWrite_x link) (x_raceWrite_f link) (by simp) (fun w => by simp [Extern.Race.marked, Extern.Race.at_, Extern.Race.none_]) (fun w es => by simp [Extern.Race.marked, Extern.Race.at_, mk, smA]) (fun w h => h) fun w => .write h rfl rfl rfl
theorem H4 (h : g0 A = 9) : @EntryR (compP ph) Try.prog 87 #[.pointer (some ⟨ph.Wg, 0, none⟩)] A (fun v B => v = .tuple #[] ∧ ∃ w, Fin ph B w) := by
  letI := compP ph
  refine Jw Try.func87 (x_acquire_n link) (x_acquire_b link) (x_acquire_x link) (x_acquire_f link) fun w h1 h2 => ?_
  obtain ⟨A', hF⟩ := h2.2.2.2.1 h
  exact ⟨.tuple #[], A', w, #[mk (.acquire (stA ph.Wg))], by simp [Extern.Race.marked, Extern.Race.at_, Extern.Race.none_], by simp [Extern.Race.marked, Extern.Race.at_, mk, stA], evt _ rfl (fun g h => by simp [mk] at h), hF.sees, .inr (.acquire h hF rfl rfl), rfl, w, hF⟩
theorem M5 : @EntryR (compP ph) Try.prog 76 #[] A (fun v B => v = .bool false ∧ B = A) := by
  letI := compP ph
  refine Jw Try.func76 (x_inBubble_n link) (x_inBubble_b link) (x_inBubble_x link) (x_inBubble_f link) fun w h1 h2 => ?_
  exact ⟨.bool false, A, w, #[], rfl, by simp, by simp, h1, .inl ⟨rfl, Turns.refl A w, by simp⟩, rfl, rfl⟩
theorem Ij (h : g0 A = 2) (hW : ¬ Seen A ph.Wg) (hn : ph.n < 2147483648) : @EntryR (compP ph) Try.prog 113 #[.pointer (some ⟨ph.Wg, 0, none⟩), .int .u64 ((ph.n : Int) * 4294967296)] A (fun v B => v = .int .u64 ((ph.n : Int) * 4294967296) ∧ B = setT A 3 0) := by
  letI := compP ph
  refine Jw Try.func113 (x_addU64_n link) (x_addU64_b link) (x_addU64_x link) (x_addU64_f link) fun w h1 h2 => ?_
  have hw : WgAt ph.ty ph.Wg w 0 0 := h2.1 h
  have hwr : IntKind.u64.wrap (0 + (ph.n : Int) * 4294967296) = (ph.n : Int) * 4294967296 := by rw [IntKind.wrap_u64]; omega
  have hr := Go.Conc.run_add_entry (P := Try.prog) (k := .u64) (d := (ph.n : Int) * 4294967296) hw.cellSt (hw.thaw 0)
  have he := Go.Conc.events_add_entry (P := Try.prog) (k := .u64) (d := (ph.n : Int) * 4294967296) hw.cellSt (hw.thaw 0) #[⟨.mark (.extern 113), false, true⟩]
  rw [hwr] at hr
  exact ⟨_, setT A 3 0, _, #[rd (stA ph.Wg), wr (stA ph.Wg)], hr, he, Go.Conc.sync_rw _, G6 (A := setT A 3 0) (Jq (w' := w) h1 3 0) hW (aside_setCell w (stA ph.Wg) _), .inr (.add h rfl rfl rfl), rfl, rfl⟩
theorem Gn {w : World} {ad : Addr} {x : Int} (hc : w.cell? ad = some (.int .u64 x)) : ((Extern.Atomic.loadT (.int .u64)) #[.pointer (some ad)]).run Try.prog w = .ok (.int .u64 x) w := by
  change Sem.run Try.prog (do Extern.Atomic.read (.int .u64) (← asAddr (.pointer (some ad)))) w = _
  simp [Extern.Atomic.read, asAddr, hc]
theorem V1 {w : World} {ad : Addr} {x : Int} (hc : w.cell? ad = some (.int .u64 x)) (es : Array Event) : ((Extern.Atomic.loadT (.int .u64)) #[.pointer (some ad)]).events Try.prog w es = es.push ⟨.cell ad, false, true⟩ := by
  change Sem.events Try.prog (do Extern.Atomic.read (.int .u64) (← asAddr (.pointer (some ad)))) w _ = _
  simp [Extern.Atomic.read, asAddr, hc, Go.events_load]
theorem E5 (h : g0 A = 5) : @EntryR (compP ph) Try.prog 114 #[.pointer (some ⟨ph.Wg, 0, none⟩)] A (fun v B => ∃ k : Nat, k ≤ g1 A ∧ v = .int .u64 ((k : Int) * 4294967296) ∧ ((k = 0 ∧ B = setT A 8 0) ∨ (1 ≤ k ∧ B = setT A 5 k))) := by
  letI := compP ph
  refine Jw Try.func114 (x_loadU64_n link) (x_loadU64_b link) (x_loadU64_x link) (x_loadU64_f link) fun w h1 h2 => ?_
  obtain ⟨k, hk, hw⟩ := h2.2.1 h
  have hc := hw.cellSt
  have hr := Gn hc
  have he := V1 hc #[⟨.mark (.extern 114), false, true⟩]
  rcases Nat.eq_zero_or_pos k with rfl | hp
  · have hw0 : WgAt ph.ty ph.Wg w 0 0 := by simpa using hw
    exact ⟨_, setT A 8 0, w, #[rd (stA ph.Wg)], hr, he, Go.Conc.sync_r _, Jq (w' := w) h1 8 0, .inr (.load0 h hw0 rfl rfl rfl), 0, hk, rfl, .inl ⟨rfl, rfl⟩⟩
  · exact ⟨_, setT A 5 k, w, #[rd (stA ph.Wg)], hr, he, Go.Conc.sync_r _, Jq (w' := w) h1 5 k, .inr (.load k h hk hw rfl rfl rfl), k, hk, rfl, .inr ⟨hp, rfl⟩⟩
theorem Dd (h : g0 A = 8) : @EntryR (compP ph) Try.prog 114 #[.pointer (some ⟨ph.Wg, 0, none⟩)] A (fun v B => v = .int .u64 0 ∧ B = A) := by
  letI := compP ph
  refine Jw Try.func114 (x_loadU64_n link) (x_loadU64_b link) (x_loadU64_x link) (x_loadU64_f link) fun w h1 h2 => ?_
  have hw : WgAt ph.ty ph.Wg w 0 0 := h2.2.2.1 h
  have hc' : w.cell? ⟨ph.Wg, 0, none⟩ = some (.int .u64 0) := hw.cellSt
  exact ⟨.int .u64 0, A, w, #[rd (stA ph.Wg)], Gn hc', V1 hc' _, Go.Conc.sync_r _, h1, .inr (.load2 h rfl rfl rfl), rfl, rfl⟩
theorem Ik {k : Nat} (h : g0 A = 5) (hk : g1 A = k) (hk1 : 1 ≤ k) (hW : ¬ Seen A ph.Wg) : @EntryR (compP ph) Try.prog 117 #[.pointer (some ⟨ph.Wg, 0, none⟩), .int .u64 ((k : Int) * 4294967296), .int .u64 ((k : Int) * 4294967296 + 1)] A (fun v B => (v = .bool true ∧ B = setT A 6 0) ∨ (v = .bool false ∧ ∃ j : Nat, j < k ∧ B = setT A 5 j)) := by
  letI := compP ph
  refine Jw Try.func117 (x_casU64_n link) (x_casU64_b link) (x_casU64_x link) (x_casU64_f link) fun w h1 h2 => ?_
  obtain ⟨j, hj, hw⟩ := h2.2.1 h
  rw [Go.Conc.casT_eq]
  by_cases e : j = k
  · subst e
    exact ⟨_, setT A 6 0, _, #[rd (stA ph.Wg), wr (stA ph.Wg)], Go.Conc.run_cas_hit_entry hw.cellSt (hw.thaw 0), Go.Conc.events_cas_hit_entry hw.cellSt (hw.thaw 0) _, Go.Conc.sync_rw _, G6 (A := setT A 6 0) (Jq (w' := w) h1 6 0) hW (aside_setCell w (stA ph.Wg) _), .inr (.hit j h hk1 hw rfl rfl rfl), .inl ⟨rfl, rfl⟩⟩
  · have hne : ¬ ((j : Int) * KK = (k : Int) * 4294967296) := fun he => e (L0 he)
    exact ⟨_, setT A 5 j, w, #[rd (stA ph.Wg)], Go.Conc.run_cas_miss_entry hw.cellSt (hw.thaw 0) hne, Go.Conc.events_cas_miss_entry hw.cellSt (hw.thaw 0) hne _, Go.Conc.sync_r _, Jq (w' := w) h1 5 j, .inr (.load j h hj hw rfl rfl rfl), .inr ⟨rfl, j, by omega, rfl⟩⟩
end
end Go.Dw.J
end
section
namespace Go.Dw.J
open Go.RowKit Go.Dw Go.Proofs
open Go.Conc (G Goes QuitsD aside_setCell Aside semEvents)
open Go.ConcR (Payload WgAt wgBlock KK stA smA rd wr mk)
open Go.ConcR.Gen
open Go.ConcN (WgLive)
set_option linter.unusedSectionVars false
set_option linter.unusedSimpArgs false
set_option linter.unusedVariables false
set_option maxRecDepth 100000
theorem Wy : fieldOff Try.prog 70 1 = some 0 := by kernel_rfl
theorem Hz : fieldOff Try.prog 70 2 = some 1 := by kernel_rfl
theorem Wx : fieldOff Try.prog 67 2 = some 0 := by kernel_rfl
section
variable [Payload] {ph : Ph} {A : World}
theorem Fo (h : g0 A = 2) (hW : ¬ Seen A ph.Wg) (hn : ph.n < 2147483648) : @CallsR (compP ph) Try.prog 80 #[.pointer (some ⟨ph.Wg, 0, none⟩), .int .u64 ((ph.n : Int) * 4294967296)] A (fun v B => v = .int .u64 ((ph.n : Int) * 4294967296) ∧ B = setT A 3 0) := by
  letI := compP ph
  refine Xp (n := 10) Try.func80 rfl Try.ntmps80 rfl ?_
  refine Xa (wpo_assign (v := .int .u64 0) rfl rfl (wpo_nil ?_))
  refine Xa ?_
  refine wpo_move (v := .pointer (some ⟨ph.Wg, 0, none⟩)) rfl rfl ?_
  refine wpo_nilCheck rfl rfl ?_
  refine wpo_fieldAddr (o' := 0) Wx rfl rfl rfl ?_
  refine wpo_move (v := .int .u64 ((ph.n : Int) * 4294967296)) rfl rfl ?_
  refine Qz (vs := [.pointer (some ⟨ph.Wg, 0, none⟩), .int .u64 ((ph.n : Int) * 4294967296)]) (Xb rfl (Xb rfl Xg)) rfl (Ij h hW hn) ?_
  rintro _ _ ⟨rfl, rfl⟩
  refine wpo_assign (v := .int .u64 ((ph.n : Int) * 4294967296)) rfl rfl (wpo_nil (Xj ?_))
  exact ⟨_, res1 rfl rfl, rfl, rfl⟩
theorem Eb (h : g0 A = 5) : @CallsR (compP ph) Try.prog 82 #[.pointer (some ⟨ph.Wg, 0, none⟩)] A (fun v B => ∃ k : Nat, k ≤ g1 A ∧ v = .int .u64 ((k : Int) * 4294967296) ∧ ((k = 0 ∧ B = setT A 8 0) ∨ (1 ≤ k ∧ B = setT A 5 k))) := by
  letI := compP ph
  refine Xp (n := 7) Try.func82 rfl Try.ntmps82 rfl ?_
  refine Xa (wpo_assign (v := .int .u64 0) rfl rfl (wpo_nil ?_))
  refine Xa ?_
  refine wpo_move (v := .pointer (some ⟨ph.Wg, 0, none⟩)) rfl rfl ?_
  refine wpo_nilCheck rfl rfl ?_
  refine wpo_fieldAddr (o' := 0) Wx rfl rfl rfl ?_
  refine Qz (vs := [.pointer (some ⟨ph.Wg, 0, none⟩)]) (Xb rfl Xg) rfl (E5 h) ?_
  rintro _ B ⟨k, hk, rfl, hB⟩
  refine wpo_assign (v := .int .u64 ((k : Int) * 4294967296)) rfl rfl (wpo_nil (Xj ?_))
  exact ⟨_, res1 rfl rfl, k, hk, rfl, hB⟩
theorem Cv (h : g0 A = 8) : @CallsR (compP ph) Try.prog 82 #[.pointer (some ⟨ph.Wg, 0, none⟩)] A (fun v B => v = .int .u64 0 ∧ B = A) := by
  letI := compP ph
  refine Xp (n := 7) Try.func82 rfl Try.ntmps82 rfl ?_
  refine Xa (wpo_assign (v := .int .u64 0) rfl rfl (wpo_nil ?_))
  refine Xa ?_
  refine wpo_move (v := .pointer (some ⟨ph.Wg, 0, none⟩)) rfl rfl ?_
  refine wpo_nilCheck rfl rfl ?_
  refine wpo_fieldAddr (o' := 0) Wx rfl rfl rfl ?_
  refine Qz (vs := [.pointer (some ⟨ph.Wg, 0, none⟩)]) (Xb rfl Xg) rfl (Dd h) ?_
  rintro _ _ ⟨rfl, rfl⟩
  refine wpo_assign (v := .int .u64 0) rfl rfl (wpo_nil (Xj ?_))
  exact ⟨_, res1 rfl rfl, rfl, rfl⟩
theorem Fp {k : Nat} (h : g0 A = 5) (hk : g1 A = k) (hk1 : 1 ≤ k) (hW : ¬ Seen A ph.Wg) : @CallsR (compP ph) Try.prog 89 #[.pointer (some ⟨ph.Wg, 0, none⟩), .int .u64 ((k : Int) * 4294967296), .int .u64 ((k : Int) * 4294967296 + 1)] A (fun v B => (v = .bool true ∧ B = setT A 6 0) ∨ (v = .bool false ∧ ∃ j : Nat, j < k ∧ B = setT A 5 j)) := by
  letI := compP ph
  refine Xp (n := 13) Try.func89 rfl Try.ntmps89 rfl ?_
  refine Xa (wpo_assign (v := .bool false) rfl rfl (wpo_nil ?_))
  refine Xa ?_
  refine wpo_move (v := .pointer (some ⟨ph.Wg, 0, none⟩)) rfl rfl ?_
  refine wpo_nilCheck rfl rfl ?_
  refine wpo_fieldAddr (o' := 0) Wx rfl rfl rfl ?_
  refine wpo_move (v := .int .u64 ((k : Int) * 4294967296)) rfl rfl ?_
  refine wpo_move (v := .int .u64 ((k : Int) * 4294967296 + 1)) rfl rfl ?_
  refine Qz (vs := [.pointer (some ⟨ph.Wg, 0, none⟩), .int .u64 ((k : Int) * 4294967296), .int .u64 ((k : Int) * 4294967296 + 1)]) (Xb rfl (Xb rfl (Xb rfl Xg))) rfl (Ik h hk hk1 hW) ?_
  intro v B hB
  refine wpo_assign (v := v) rfl rfl (wpo_nil (Xj ?_))
  exact ⟨_, res1 rfl rfl, hB⟩
theorem Vu {n : Nat} {ops : Array Oper} {K : Fr → World → Prop} {l : List Oper} {f : Fr} {ty : TypeId} {pos : String} {aft : Array Edge} {d : Nat} {src dst t : TypeId} {x : Operand} {o : Nat} (hs : Try.prog.underlying src = some (.pointer t)) (hd : Try.prog.underlying dst = some .unsafePointer) (hsz : (Try.prog.info? t).map (fun i => decide (i.size = 0)) = some false)
    (hx : ev f x = .pointer (some ⟨ph.Wg, o, none⟩)) (ho : o = 0 ∨ o = 1) (h0 : g0 A ≠ 0) (hdn : Nat.blt d n = true) (h : @WpO (compP ph) Try.prog n ops K l (up f d (.pointer (some ⟨ph.Wg, o, none⟩))) A) : @WpO (compP ph) Try.prog n ops K (⟨some d, .convert src dst x, ty, pos, aft, none⟩ :: l) f A := by
  letI := compP ph
  intro a ha
  refine Or.inl ⟨by simp [Region.wanted], Or.inr ⟨fun v A' => v = .pointer (some ⟨ph.Wg, o, none⟩) ∧ A' = A, ?_, fun v A' ⟨e1, e2⟩ => ⟨_, ha.put hdn v, by rw [e1, e2]; exact h⟩⟩⟩
  intro J hJ b hb i rest kk cs a2 o' ho' hd' hw' hs' hk'
  refine hJ.step _ _ ⟨rfl, fun w1 hsee hinv => ?_⟩
  obtain ⟨st, sm, hl⟩ := hinv.2.2.2.2 h0
  have hc : ∃ v, w1.cell? ⟨ph.Wg, o, none⟩ = some v := by
    rcases ho with rfl | rfl
    · exact ⟨_, hl.cellSt⟩
    · exact ⟨_, hl.cellSm⟩
  obtain ⟨cv, hc⟩ := hc
  have e1 : execOp a.eval ⟨some d, .convert src dst x, ty, pos, aft, none⟩ = (do pure (.value (← convert src dst (.pointer (some ⟨ph.Wg, o, none⟩)))) : Sem Next) := by
    rw [ha.eval]
    show (do pure (.value (← convert src dst (ev f x))) : Sem Next) = _
    rw [hx]
  have hr : (execOp a2.eval o').run Try.prog w1 = .ok (.value (.pointer (some ⟨ph.Wg, o, none⟩))) w1 := by
    rw [hs', e1, Sem.run_bind, run_convert_to_unsafe hs hd hsz hc]; rfl
  have hev : (execOp a2.eval o').events Try.prog w1 #[] = #[] := by
    rw [hs', e1, Sem.events_bind, run_convert_to_unsafe hs hd hsz hc, Go.Conc.events_convert_to_unsafe hs hd hsz hc]; rfl
  refine ⟨_, A, w1, _, Kk ho' hw' hb hr, hsee, .inl ⟨rfl, Turns.refl A w1, fun e he => ?_⟩, by rw [hd']; exact hk' _ _ ⟨rfl, rfl⟩⟩
  have := Go.Conc.mem_seen he
  rw [hev] at this
  simp at this
theorem Nj {P : Program} {main : Bool} {b : Frame} {a : Act} {k : List Item} {cs : List Frame} {w w' : World} {ops : Array Oper} {i : Nat} {rest : List Nat} {o : Oper} (ho : ops[i]? = some o) (hw : Region.wanted o (yielded ops a.tmps) = true) (hnd : ∀ c, o.op ≠ .defer c) (hr : (execOp a.eval o).run P w = .halt .blocked w') :
    stepG P main (G (ato b a (.inRegion ops (i :: rest) :: k)) cs) w = .go { G (ato b a (.inRegion ops (i :: rest) :: k)) cs with status := .blocked } w' #[] := by
  rw [K6 ho hw hnd]
  simp [stepG.apply, hr, G, GStep.after, Go.Conc.seen_none]
theorem E7 (hP : ph.P = Try.prog) (h6 : g0 A = 6) {x : Value} : @EntryR (compP ph) Try.prog 91 #[.pointer (some ⟨ph.Wg, 1, none⟩), x] A (fun v B => v = .tuple #[] ∧ B = setT A 8 0) := by
  letI := compP ph
  intro ops o J hJ b hbk i rest kk cs a o' ho hd hw hs hk
  have run1 : ∀ w st, WgAt ph.ty ph.Wg w st 1 → (execOp a.eval o').run Try.prog w = .ok (.value (.tuple #[])) (w.setCell (smA ph.Wg) (.int .u32 0)) := fun w st h => by
    have hc : w.cell? ⟨ph.Wg, 1, none⟩ = some (.int .u32 1) := h.cellSm
    have hz := h.thaw 1
    have hr : (Extern.Sync.semacquire #[.pointer (some ⟨ph.Wg, 1, none⟩), x]).run Try.prog w = .ok (.tuple #[]) (w.setCell (smA ph.Wg) (.int .u32 0)) := by
      simp [Extern.Sync.semacquire, Extern.Sync.count, hc, hz, Extern.Sync.none_, run_store Try.prog w ⟨ph.Wg, 1, none⟩ (.int .u32 0) .atomic rfl, Result.andThen, smA]
    rw [hs, Go.run_callFunc_extern Try.func91 (x_semacquire_n link) (x_semacquire_b link) (x_semacquire_x link) (x_semacquire_f link), hr]; rfl
  have hnd : ∀ c, o'.op ≠ .defer c := by
    let w0 : World := { (default : World) with heap := Array.replicate (ph.Wg + 1) (wgBlock ph.ty 0 1) }
    exact Vh (run1 w0 0 (by show (Array.replicate (ph.Wg + 1) (wgBlock ph.ty 0 1))[ph.Wg]? = _; simp)) (by simp)
  refine (hJ.extra : OkP ph J).sema _ (G (ato b (a.put o'.dst (.tuple #[])) (.inRegion ops rest :: kk)) cs) A rfl rfl h6 (fun w st h => ?_) (fun w st h => ?_) (by rw [hd]; exact hk _ _ ⟨rfl, rfl⟩)
  · have hc : w.cell? ⟨ph.Wg, 1, none⟩ = some (.int .u32 0) := h.cellSm
    have hr : (Extern.Sync.semacquire #[.pointer (some ⟨ph.Wg, 1, none⟩), x]).run Try.prog w = .halt .blocked w := by
      simp [Extern.Sync.semacquire, Extern.Sync.count, hc]
    rw [hP]
    refine Nj ho hw hnd ?_
    rw [hs, Go.run_callFunc_extern Try.func91 (x_semacquire_n link) (x_semacquire_b link) (x_semacquire_x link) (x_semacquire_f link), hr]; rfl
  · have hc : w.cell? ⟨ph.Wg, 1, none⟩ = some (.int .u32 1) := h.cellSm
    have hz := h.thaw 1
    have hev : ∀ es, (Extern.Sync.semacquire #[.pointer (some ⟨ph.Wg, 1, none⟩), x]).events Try.prog w es = es ++ semEvents (smA ph.Wg) := fun es => by
      simp [Extern.Sync.semacquire, Extern.Sync.count, hc, hz, semEvents, smA, Go.events_load, Go.events_store Try.prog w _ ⟨ph.Wg, 1, none⟩ (.int .u32 0) .atomic rfl, run_store Try.prog w ⟨ph.Wg, 1, none⟩ (.int .u32 0) .atomic rfl, Result.evThen]
      apply Array.ext'
      simp
    rw [hP, Kk ho hw hbk (run1 w st h)]
    unfold Go.Conc.listed
    rw [hs, Go.Conc.events_callFunc_extern Try.func91 (x_semacquire_n link) (x_semacquire_b link) (x_semacquire_x link) (x_semacquire_f link), hev]
    simp only [List.push_toArray, List.nil_append]
    rw [Go.Conc.seen_entry _ _ _ (Go.Conc.semEvents_sync _)]
end
end Go.Dw.J
end
section
namespace Go.Dw.J
open Go.RowKit Go.Dw Go.Proofs
open Go.Conc (G Goes QuitsD aside_setCell Aside semEvents dcall)
open Go.ConcR (Payload WgAt wgBlock KK stA smA rd wr mk)
open Go.ConcR.Gen
open Go.ConcN (WgLive)
set_option linter.unusedSectionVars false
set_option linter.unusedSimpArgs false
set_option linter.unusedVariables false
set_option maxRecDepth 100000
set_option maxHeartbeats 4000000
theorem Ey : (Try.prog.underlying 3).isSome = true := by kernel_rfl
theorem Np : (Try.prog.underlying 65).isSome = true := by kernel_rfl
theorem F5 : Try.prog.underlying 65 = some (.int .u64) := by kernel_rfl
theorem Ss : Try.prog.underlying 21 = some (.int .i32) := by kernel_rfl
theorem C1 : Try.prog.underlying 68 = some (.int .u32) := by kernel_rfl
theorem Tb : Try.prog.underlying 110 = some (.pointer 68) := by kernel_rfl
theorem Ta : Try.prog.underlying 102 = some (.pointer 70) := by kernel_rfl
theorem G4 : Try.prog.underlying 104 = some .unsafePointer := by kernel_rfl
theorem Cz : (Try.prog.info? 68).map (fun i => decide (i.size = 0)) = some false := by kernel_rfl
theorem C0 : (Try.prog.info? 70).map (fun i => decide (i.size = 0)) = some false := by kernel_rfl
theorem Fz : goFn Try.prog 80 = true := by kernel_rfl
theorem Cy : goFn Try.prog 82 = true := by kernel_rfl
theorem F1 : goFn Try.prog 89 = true := by kernel_rfl
section
variable {n : Nat}
theorem Ig (hn : n < 2147483648) (w : World) : (binOp .shl 65 (.int .u64 (n : Int)) (.int .u64 32)).run Try.prog w = .ok (.int .u64 ((n : Int) * 4294967296)) w := by
  simp [binOp, go_sem]
  rw [IntKind.wrap_u64]; omega
theorem Ei (w : World) : (binOp .shr 65 (.int .u64 ((n : Int) * 4294967296)) (.int .u64 32)).run Try.prog w = .ok (.int .u64 (n : Int)) w := by
  simp [binOp, go_sem]
theorem Rl (hn : n < 2147483648) (w : World) : (binOp .and 65 (.int .u64 ((n : Int) * 4294967296)) (.int .u64 2147483648)).run Try.prog w = .ok (.int .u64 0) w := by
  have := Go.ConcN.st_flag n 0 hn (by omega)
  simp at this
  simp [binOp, go_sem, this]
theorem M2 (hn : n < 2147483648) (w : World) : (binOp .and 65 (.int .u64 ((n : Int) * 4294967296)) (.int .u64 2147483647)).run Try.prog w = .ok (.int .u64 0) w := by
  have := Go.ConcN.st_waiters n 0 hn (by omega)
  simp at this
  simp [binOp, go_sem, this]
theorem Oc (hn : n < 2147483648) : IntKind.u64.wrap (n : Int) = (n : Int) := by rw [IntKind.wrap_u64]; omega
theorem C2 (hn : n < 2147483648) : IntKind.i32.wrap (n : Int) = (n : Int) := by rw [IntKind.wrap_i32]; omega
end
noncomputable def body39 : Code := Try.f39.body.getD .skip
noncomputable def x39 : Code := match body39 with
  | .seq (.cond _ x _) _ => x
  | _ => .skip
noncomputable def rest39 : Code := match body39 with
  | .seq _ y => y
  | _ => .skip
noncomputable def xa39 : Code := match x39 with
  | .seq x _ => x
  | _ => .skip
noncomputable def xb39 : Code := match x39 with
  | .seq _ (.seq x _) => x
  | _ => .skip
noncomputable def xc39 : Code := match x39 with
  | .seq _ (.seq _ x) => x
  | _ => .skip
theorem Tk : body39 = .seq (.cond (.const (.bool true)) (.seq xa39 (.seq xb39 xc39)) .skip) rest39 := rfl
section
variable [Payload] {ph : Ph} {A : World} {f : Fr}
theorem Ib (h1 : f 1 = .int .i64 (ph.n : Int)) : @Wpf (compP ph) Try.prog 117 (fun e F B => e = .normal ∧ F 0 = f 0 ∧ F 1 = f 1 ∧ B = A) xa39 f A := by
  letI := compP ph
  refine Xa ?_
  refine wpo_move (v := .int .i64 (ph.n : Int)) h1 rfl ?_
  refine wpo_lss (q := false) rfl rfl (by simp) rfl ?_
  refine wpo_nil (Ya rfl rfl (Xk ⟨rfl, rfl, rfl, rfl⟩))
theorem Ic (h : g0 A = 1) : @Wpf (compP ph) Try.prog 117 (fun e F B => e = .normal ∧ F 0 = f 0 ∧ F 1 = f 1 ∧ B = setT A 2 0) xb39 f A := by
  letI := compP ph
  refine Xl ?_
  refine Qz (vs := []) Xg rfl (Rs h) ?_
  rintro _ _ ⟨rfl, rfl⟩
  exact wpo_nil ⟨rfl, rfl, rfl, rfl⟩
theorem Mz (h : g0 A = 2) (hW : ¬ Seen A ph.Wg) (hn : ph.n < 2147483648) (h0 : f 0 = .pointer (some ⟨ph.Wg, 0, none⟩)) (h1 : f 1 = .int .i64 (ph.n : Int)) : @Wpf (compP ph) Try.prog 117 (fun e F B => e = .ret ∧ B = setT A 3 0) rest39 f A := by
  letI := compP ph
  refine Xa (wpo_assign (v := .bool false) rfl rfl (wpo_nil ?_))
  refine Xi (Xa ?_)
  refine Qz (vs := []) Xg rfl M5 ?_
  rintro _ B ⟨rfl, hB⟩
  rw [hB]
  refine wpo_nil (Ya rfl rfl (Xk ?_))
  refine Xa ?_
  refine wpo_move (v := .pointer (some ⟨ph.Wg, 0, none⟩)) h0 rfl ?_
  refine wpo_nilCheck rfl rfl ?_
  refine wpo_fieldAddr (o' := 0) Wy rfl rfl rfl ?_
  refine wpo_move (v := .int .i64 (ph.n : Int)) h1 rfl ?_
  refine wpo_conv (c := (ph.n : Int)) rfl Ey F5 (Oc hn) rfl ?_
  refine wpo_bin (v := .int .u64 ((ph.n : Int) * 4294967296)) rfl rfl rfl rfl (Ig hn) (fun _ _ => rfl) rfl ?_
  refine Xh (vs := [.pointer (some ⟨ph.Wg, 0, none⟩), .int .u64 ((ph.n : Int) * 4294967296)]) Fz (Xb rfl (Xb rfl Xg)) rfl (Fo h hW hn) ?_
  rintro _ _ ⟨rfl, rfl⟩
  refine wpo_assign (v := .int .u64 ((ph.n : Int) * 4294967296)) rfl rfl (wpo_nil ?_)
  refine Xi (Xa ?_)
  refine wpo_move (v := .int .u64 ((ph.n : Int) * 4294967296)) rfl rfl ?_
  refine wpo_bin (v := .int .u64 0) rfl rfl rfl rfl (Rl hn) (fun _ _ => rfl) rfl ?_
  refine wpo_neq (q := false) rfl rfl rfl rfl ?_
  refine wpo_move (v := .bool false) rfl rfl ?_
  refine Xe rfl rfl rfl rfl rfl ?_
  refine Xe rfl rfl rfl rfl rfl ?_
  refine wpo_pickf (v := .bool false) rfl rfl rfl rfl (wpo_nil (Ya rfl rfl (Xk ?_)))
  refine Xa ?_
  refine wpo_move (v := .int .u64 ((ph.n : Int) * 4294967296)) rfl rfl ?_
  refine wpo_bin (v := .int .u64 (ph.n : Int)) rfl rfl rfl rfl (Ei) (fun _ _ => rfl) rfl ?_
  refine wpo_conv (c := (ph.n : Int)) rfl Np Ss (C2 hn) rfl ?_
  refine wpo_assign (v := .int .i32 (ph.n : Int)) rfl rfl (wpo_nil ?_)
  refine Xa ?_
  refine wpo_move (v := .int .u64 ((ph.n : Int) * 4294967296)) rfl rfl ?_
  refine wpo_bin (v := .int .u64 0) rfl rfl rfl rfl (M2 hn) (fun _ _ => rfl) rfl ?_
  refine wpo_conv (c := 0) rfl Np C1 (by rw [IntKind.wrap_u32]; rfl) rfl ?_
  refine wpo_assign (v := .int .u32 0) rfl rfl (wpo_nil ?_)
  have tail : ∀ F : Fr, F 7 = .int .i32 (ph.n : Int) → F 8 = .int .u32 0 → F 1 = .int .i64 (ph.n : Int) → @Wpf (compP ph) Try.prog 117 (fun e F B => e = .ret ∧ B = setT A 3 0) (match rest39 with | .seq _ (.seq _ (.seq _ (.seq _ (.seq _ (.seq _ (.seq _ c)))))) => c | _ => .skip) F (setT A 3 0) := by
    intro F e7 e8 e1
    refine Xi (Xa ?_)
    refine wpo_move (v := .int .i32 (ph.n : Int)) e7 rfl ?_
    refine wpo_lss (q := false) rfl rfl (by simp) rfl (wpo_nil (Ya rfl rfl (Xk ?_)))
    refine Xi (Xa ?_)
    refine wpo_move (v := .int .u32 0) e8 rfl ?_
    refine wpo_neq (q := false) rfl rfl rfl rfl ?_
    refine wpo_move (v := .bool false) rfl rfl ?_
    refine Xe rfl rfl rfl rfl rfl ?_
    refine Xe rfl rfl rfl rfl rfl ?_
    refine wpo_pickf (v := .bool false) rfl rfl rfl rfl ?_
    refine wpo_move (v := .bool false) rfl rfl ?_
    refine Xe rfl rfl rfl rfl rfl ?_
    refine Xe rfl rfl rfl rfl rfl ?_
    refine Xe rfl rfl rfl rfl rfl ?_
    refine Xe rfl rfl rfl rfl rfl ?_
    refine wpo_pickf (v := .bool false) rfl rfl rfl rfl (wpo_nil (Ya rfl rfl (Xk ?_)))
    refine Xi (Xa ?_)
    refine wpo_move (v := .int .i32 (ph.n : Int)) e7 rfl ?_
    rcases Nat.eq_zero_or_pos ph.n with hz | hp
    · refine wpo_gtr (q := false) rfl rfl (by simp; omega) rfl ?_
      refine wpo_move (v := .bool false) rfl rfl ?_
      refine Xc rfl rfl rfl rfl ?_
      refine wpo_move (v := .int .u32 0) e8 rfl ?_
      refine Xc rfl rfl rfl rfl ?_
      refine wpo_eql (q := true) rfl rfl rfl rfl ?_
      refine wpo_pickf (v := .bool true) rfl rfl rfl rfl (wpo_nil (X8 rfl rfl (Xj ⟨rfl, rfl⟩)))
    · refine wpo_gtr (q := true) rfl rfl (by simp; omega) rfl ?_
      refine wpo_move (v := .bool true) rfl rfl ?_
      refine Xe rfl rfl rfl rfl rfl ?_
      refine Xe rfl rfl rfl rfl rfl ?_
      refine wpo_pickt (v := .bool true) rfl rfl rfl rfl (wpo_nil (X8 rfl rfl (Xj ⟨rfl, rfl⟩)))
  refine Xi (Xa ?_)
  refine wpo_move (v := .bool true) rfl rfl ?_
  refine Xc rfl rfl rfl rfl ?_
  refine wpo_move (v := .int .i64 (ph.n : Int)) h1 rfl ?_
  refine Xc rfl rfl rfl rfl ?_
  rcases Nat.eq_zero_or_pos ph.n with hz | hp
  · refine wpo_gtr (q := false) rfl rfl (by simp; omega) rfl ?_
    refine wpo_pickt (v := .bool false) rfl rfl rfl rfl ?_
    refine wpo_move (v := .bool false) rfl rfl ?_
    refine Xe rfl rfl rfl rfl rfl ?_
    refine Xe rfl rfl rfl rfl rfl ?_
    refine Xe rfl rfl rfl rfl rfl ?_
    refine Xe rfl rfl rfl rfl rfl ?_
    refine wpo_pickf (v := .bool false) rfl rfl rfl rfl (wpo_nil (Ya rfl rfl (Xk ?_)))
    exact tail _ rfl rfl h1
  · refine wpo_gtr (q := true) rfl rfl (by simp; omega) rfl ?_
    refine wpo_pickt (v := .bool true) rfl rfl rfl rfl ?_
    refine wpo_move (v := .bool true) rfl rfl ?_
    refine Xc rfl rfl rfl rfl ?_
    refine wpo_move (v := .int .i32 (ph.n : Int)) rfl rfl ?_
    refine Xc rfl rfl rfl rfl ?_
    refine wpo_move (v := .int .i64 (ph.n : Int)) h1 rfl ?_
    refine Xc rfl rfl rfl rfl ?_
    refine wpo_conv (c := (ph.n : Int)) rfl Ey Ss (C2 hn) rfl ?_
    refine Xc rfl rfl rfl rfl ?_
    refine wpo_eql (q := true) rfl rfl (by simp) rfl ?_
    refine wpo_pickt (v := .bool true) rfl rfl rfl rfl (wpo_nil (X8 rfl rfl (Xl ?_)))
    refine wpo_move (v := .pointer (some ⟨ph.Wg, 0, none⟩)) h0 rfl ?_
    refine wpo_nilCheck rfl rfl ?_
    refine wpo_fieldAddr (o' := 1) Hz rfl rfl rfl ?_
    refine Vu (ph := ph) Tb G4 Cz rfl (.inr rfl) (by show (3 : Nat) ≠ 0; omega) rfl ?_
    refine Qz (vs := [.pointer (some ⟨ph.Wg, 1, none⟩)]) (Xb rfl Xg) rfl (E6 rfl) ?_
    rintro _ _ ⟨rfl, rfl⟩
    exact wpo_nil (tail _ rfl rfl h1)
end
end Go.Dw.J
end
section
namespace Go.Dw.J
open Go.RowKit Go.Dw Go.Proofs
open Go.Conc (G dcall base)
open Go.ConcR (Payload mk)
open Go.ConcR.Gen
set_option linter.unusedSectionVars false
set_option linter.unusedSimpArgs false
set_option linter.unusedVariables false
set_option maxRecDepth 100000
set_option maxHeartbeats 4000000
section
variable [Payload] {ph : Ph} {A : World}
theorem Ie (h : g0 A = 1) (hW : ¬ Seen A ph.Wg) (hn : ph.n < 2147483648) : @CallsR (compP ph) Try.prog 39 #[.pointer (some ⟨ph.Wg, 0, none⟩), .int .i64 (ph.n : Int)] A (fun v B => v = .tuple #[] ∧ B = setT A 4 0) := by
  letI := compP ph
  intro J hJ cf cs hk
  have eb : Try.f39.body = some body39 := rfl
  rw [Go.Conc.enter_at _ Try.func39 eb, ← G7 (b := base 39) rfl rfl, Try.ntmps39, Tk]
  generalize hT : (#[.pointer (some ⟨ph.Wg, 0, none⟩), .int .i64 (ph.n : Int)] ++ Array.replicate (117 - (#[.pointer (some ⟨ph.Wg, 0, none⟩), .int .i64 (ph.n : Int)] : Array Value).size) undef : Array Value) = T
  have hf : FEq 117 ⟨T, []⟩ (fun i => T.getD i undef) := ⟨rfl, by rw [← hT]; simp, fun i => rfl⟩
  have h0 : T.getD 0 undef = .pointer (some ⟨ph.Wg, 0, none⟩) := by rw [← hT]; simp
  have h1 : T.getD 1 undef = .int .i64 (ph.n : Int) := by rw [← hT]; simp
  have hb : (base 39).kind ≠ .early := by simp [base]
  refine hJ.move rfl (fun w => stepG_seq) ?_
  refine hJ.move rfl (fun w => U8 (t := true) rfl) ?_
  simp only [if_true]
  refine hJ.move rfl (fun w => stepG_seq) ?_
  refine Ib (ph := ph) h1 J hJ (base 39) hb _ (cf :: cs) _ hf fun e a1 f1 A1 hf1 ⟨he, e0, e1, eA⟩ => ?_
  subst he
  rw [eA]
  refine hJ.move rfl (fun w => stepG_seq) ?_
  refine Ic (ph := ph) h J hJ (base 39) hb _ (cf :: cs) _ hf1 fun e a2 f2 A2 hf2 ⟨he, e02, e12, eA2⟩ => ?_
  subst he
  rw [eA2]
  obtain ⟨tm2, ds2⟩ := a2
  have hd2 : ds2 = [] := hf2.defers
  subst hd2
  have ec : ∃ o : Oper, xc39 = .region 3 #[o] false ∧ o.dst = none ∧ o.op = .defer { callee := .value (.func 75), args := #[], argTypes := #[] } ∧ o.guard = none := ⟨_, rfl, rfl, rfl, rfl⟩
  obtain ⟨o, ec, od, oo, og⟩ := ec
  rw [ec]
  refine hJ.move rfl (fun w => stepG_region (id := 3)) ?_
  rw [G7 rfl rfl]
  refine hJ.move rfl (fun w => Go.Conc.stepG_defer (b := base 39) (i := 0) (f := 75) (o := o) rfl (by simp [Region.wanted, og]) hb oo) ?_
  refine hJ.move rfl (fun w => Go.Conc.stepG_region_end (b := base 39)) ?_
  have ep : Act.put ⟨tm2, [dcall 75 #[]]⟩ o.dst undef = ⟨tm2, [dcall 75 #[]]⟩ := by rw [od]; rfl
  have em : Array.map (Act.eval ⟨tm2, []⟩) #[] = #[] := by simp
  rw [em, ep]
  refine Mz (ph := ph) (A := setT A 2 0) rfl hW hn (by rw [e02, e0]; exact h0) (by rw [e12, e1]; exact h1) J hJ { base 39 with defers := [dcall 75 #[]] } hb [] (cf :: cs) ⟨tm2, []⟩ hf2 fun e a3 f3 A3 hf3 ⟨he, eA3⟩ => ?_
  subst he
  intro k2
  rw [eA3]
  refine hJ.move rfl (fun w => Vj rfl) ?_
  obtain ⟨tm3, ds3⟩ := a3
  have hd3 : ds3 = [] := hf3.defers
  subst hd3
  have hJn : J (G { ato (base 39) ⟨tm3, []⟩ (.code .ret :: k2) with mode := .returning } (cf :: cs)) (setT A 4 0) :=
    hJ.leave (b := base 39) rfl rfl rfl Try.func39 (fun A1 hE => Go.Dw.res0 (f := f3) rfl _ hf3.at_) (hk _ _ ⟨rfl, rfl⟩) _
  refine hJ.step _ _ ⟨rfl, fun w hs hi => ⟨_, setT A 4 0, w, #[mk .enable], ?_, Jq (A := setT A 3 0) (w' := w) hs 4 0, .inr (.enable rfl rfl rfl rfl), hJn⟩⟩
  exact Go.Conc.stepG_unwind_entry (b := base 39) (a := ⟨tm3, [dcall 75 #[]]⟩) (ds := []) (f := 75) rfl Try.func75 (x_enable_n link) (x_enable_b link) (x_enable_x link) (x_enable_f link) (by simp [Extern.Race.none_]; rfl) (by simp; rfl) (evt _ rfl (fun g h => by simp [mk] at h))
end
end Go.Dw.J
end
section
namespace Go.Dw.J
open Go.RowKit Go.Dw Go.Proofs
open Go.ConcR (Payload mk)
open Go.ConcR.Gen
set_option linter.unusedSectionVars false
set_option linter.unusedSimpArgs false
set_option linter.unusedVariables false
set_option maxRecDepth 100000
set_option maxHeartbeats 4000000
theorem E2 {n : Nat} (hn : n < 2147483648) (w : World) : (binOp .add 65 (.int .u64 ((n : Int) * 4294967296)) (.int .u64 1)).run Try.prog w = .ok (.int .u64 ((n : Int) * 4294967296 + 1)) w := by
  simp [binOp, go_sem, Op.intArith]
  rw [IntKind.wrap_u64]; omega
section
variable [Payload] {ph : Ph} {A : World}
theorem F7 (hP : ph.P = Try.prog) (h : g0 A = 4) (h1 : g1 A = ph.n) (hW : ¬ Seen A ph.Wg) (hn : ph.n < 2147483648) : @CallsR (compP ph) Try.prog 43 #[.pointer (some ⟨ph.Wg, 0, none⟩)] A (fun v B => v = .tuple #[] ∧ ∃ w, Fin ph B w) := by
  letI := compP ph
  refine Xp (n := 84) Try.func43 rfl Try.ntmps43 rfl ?_
  refine Xi (X8 rfl rfl (Xl ?_))
  refine Qz (vs := []) Xg rfl (Ru h h1) ?_
  rintro _ _ ⟨rfl, rfl⟩
  refine wpo_nil ?_
  refine Xv ?_
  refine Ye (fun m F B => m ≤ ph.n ∧ F 0 = .pointer (some ⟨ph.Wg, 0, none⟩) ∧ B = setT A 5 m) ph.n ⟨Nat.le_refl _, rfl, rfl⟩ fun m F B ⟨hm, e0, eB⟩ => ?_
  rw [eB]
  refine Xv ?_
  refine Xa ?_
  refine wpo_move (v := .pointer (some ⟨ph.Wg, 0, none⟩)) e0 rfl ?_
  refine wpo_nilCheck rfl rfl ?_
  refine wpo_fieldAddr (o' := 0) Wy rfl rfl rfl ?_
  refine Xh (vs := [.pointer (some ⟨ph.Wg, 0, none⟩)]) Cy (Xb rfl Xg) rfl (Eb (ph := ph) (A := setT A 5 m) rfl) ?_
  rintro _ B1 ⟨k, hk, rfl, hB1⟩
  have hkm : k ≤ m := hk
  have hk31 : k < 2147483648 := by omega
  refine wpo_assign (v := .int .u64 ((k : Int) * 4294967296)) rfl rfl (wpo_nil ?_)
  refine Xa ?_
  refine wpo_move (v := .int .u64 ((k : Int) * 4294967296)) rfl rfl ?_
  refine wpo_bin (v := .int .u64 (k : Int)) rfl rfl rfl rfl Ei (fun _ _ => rfl) rfl ?_
  refine wpo_conv (c := (k : Int)) rfl Np Ss (C2 hk31) rfl ?_
  refine wpo_assign (v := .int .i32 (k : Int)) rfl rfl (wpo_nil ?_)
  refine Xa ?_
  refine wpo_move (v := .int .u64 ((k : Int) * 4294967296)) rfl rfl ?_
  refine wpo_bin (v := .int .u64 0) rfl rfl rfl rfl (M2 hk31) (fun _ _ => rfl) rfl ?_
  refine wpo_conv (c := 0) rfl Np C1 (by rw [IntKind.wrap_u32]; rfl) rfl ?_
  refine wpo_assign (v := .int .u32 0) rfl rfl (wpo_nil ?_)
  refine Xi (Xa ?_)
  refine wpo_move (v := .int .i32 (k : Int)) rfl rfl ?_
  rcases hB1 with ⟨hk0, rfl⟩ | ⟨hk1, rfl⟩
  · refine wpo_eql (q := true) rfl rfl (by simp [hk0]) rfl ?_
    refine wpo_nil (X8 rfl rfl ?_)
    refine Xi (X8 rfl rfl (Xa ?_))
    refine Qz (vs := []) Xg rfl (H5 (ph := ph) (A := setT A 8 0) rfl) ?_
    rintro _ _ ⟨rfl, rfl⟩
    refine wpo_nil (Xl ?_)
    refine wpo_move (v := .pointer (some ⟨ph.Wg, 0, none⟩)) e0 rfl ?_
    refine Vu (ph := ph) Ta G4 C0 rfl (.inl rfl) (by show (9 : Nat) ≠ 0; omega) rfl ?_
    refine Qz (vs := [.pointer (some ⟨ph.Wg, 0, none⟩)]) (Xb rfl Xg) rfl (H4 (ph := ph) (A := setT A 9 0) rfl) ?_
    rintro _ B2 ⟨rfl, hF⟩
    refine wpo_nil ?_
    refine Xi (Xa ?_)
    refine wpo_move (v := .int .u32 0) rfl rfl ?_
    refine wpo_eql (q := true) rfl rfl rfl rfl ?_
    refine wpo_move (v := .bool true) rfl rfl ?_
    refine Xc rfl rfl rfl rfl ?_
    refine wpo_move (v := .int .u64 ((k : Int) * 4294967296)) rfl rfl ?_
    refine Xc rfl rfl rfl rfl ?_
    refine wpo_bin (v := .int .u64 0) rfl rfl rfl rfl (Rl hk31) (fun _ _ => rfl) rfl ?_
    refine Xc rfl rfl rfl rfl ?_
    refine wpo_neq (q := false) rfl rfl rfl rfl ?_
    refine wpo_pickt (v := .bool false) rfl rfl rfl rfl ?_
    refine wpo_move (v := .bool false) rfl rfl ?_
    refine Xe rfl rfl rfl rfl rfl ?_
    refine Xe rfl rfl rfl rfl rfl ?_
    refine wpo_pickf (v := .bool false) rfl rfl rfl rfl (wpo_nil (Ya rfl rfl (Xk (Xj ?_))))
    exact ⟨_, res0 rfl, rfl, hF⟩
  · refine wpo_eql (q := false) rfl rfl (by simp; omega) rfl ?_
    refine wpo_nil (Ya rfl rfl (Xk ?_))
    refine Xa ?_
    refine wpo_move (v := .pointer (some ⟨ph.Wg, 0, none⟩)) e0 rfl ?_
    refine wpo_nilCheck rfl rfl ?_
    refine wpo_fieldAddr (o' := 0) Wy rfl rfl rfl ?_
    refine wpo_move (v := .int .u64 ((k : Int) * 4294967296)) rfl rfl ?_
    refine wpo_move (v := .int .u64 ((k : Int) * 4294967296)) rfl rfl ?_
    refine wpo_bin (v := .int .u64 ((k : Int) * 4294967296 + 1)) rfl rfl rfl rfl (E2 hk31) (fun _ _ => rfl) rfl ?_
    refine Xh (vs := [.pointer (some ⟨ph.Wg, 0, none⟩), .int .u64 ((k : Int) * 4294967296), .int .u64 ((k : Int) * 4294967296 + 1)]) F1 (Xb rfl (Xb rfl (Xb rfl Xg))) rfl (Fp (ph := ph) (A := setT A 5 k) rfl rfl hk1 hW) ?_
    rintro _ B2 (⟨rfl, rfl⟩ | ⟨rfl, j, hj, rfl⟩)
    · refine wpo_nil (X8 rfl rfl ?_)
      refine Xi (Xa ?_)
      refine wpo_move (v := .bool true) rfl rfl ?_
      refine Xc rfl rfl rfl rfl ?_
      refine wpo_move (v := .int .u32 0) rfl rfl ?_
      refine Xc rfl rfl rfl rfl ?_
      refine wpo_eql (q := true) rfl rfl rfl rfl ?_
      refine wpo_pickt (v := .bool true) rfl rfl rfl rfl (wpo_nil (X8 rfl rfl (Xl ?_)))
      refine wpo_move (v := .pointer (some ⟨ph.Wg, 0, none⟩)) e0 rfl ?_
      refine wpo_nilCheck rfl rfl ?_
      refine wpo_fieldAddr (o' := 1) Hz rfl rfl rfl ?_
      refine Vu (ph := ph) Tb G4 Cz rfl (.inr rfl) (by show (6 : Nat) ≠ 0; omega) rfl ?_
      refine Qz (vs := [.pointer (some ⟨ph.Wg, 1, none⟩)]) (Xb rfl Xg) rfl (De (ph := ph) (A := setT A 6 0) rfl) ?_
      rintro _ _ ⟨rfl, rfl⟩
      refine wpo_nil ?_
      refine Xa (wpo_assign (v := .bool false) rfl rfl (wpo_nil ?_))
      refine Xi (Xa ?_)
      refine wpo_move (v := .int .u64 ((k : Int) * 4294967296)) rfl rfl ?_
      refine wpo_bin (v := .int .u64 0) rfl rfl rfl rfl (Rl hk31) (fun _ _ => rfl) rfl ?_
      refine wpo_neq (q := false) rfl rfl rfl rfl ?_
      refine wpo_move (v := .bool false) rfl rfl ?_
      refine Xe rfl rfl rfl rfl rfl ?_
      refine wpo_pickf (v := .bool false) rfl rfl rfl rfl (wpo_nil (Ya rfl rfl (Xk ?_)))
      refine Xa ?_
      refine wpo_move (v := .pointer (some ⟨ph.Wg, 0, none⟩)) e0 rfl ?_
      refine wpo_nilCheck rfl rfl ?_
      refine wpo_fieldAddr (o' := 1) Hz rfl rfl rfl ?_
      refine wpo_move (v := .bool false) rfl rfl ?_
      refine Qz (vs := [.pointer (some ⟨ph.Wg, 1, none⟩), .bool false]) (Xb rfl (Xb rfl Xg)) rfl (E7 (ph := ph) (A := setT A 6 0) hP rfl) ?_
      rintro _ _ ⟨rfl, rfl⟩
      refine wpo_nil (Xa ?_)
      refine wpo_move (v := .pointer (some ⟨ph.Wg, 0, none⟩)) e0 rfl ?_
      refine wpo_nilCheck rfl rfl ?_
      refine wpo_fieldAddr (o' := 0) Wy rfl rfl rfl ?_
      refine Xh (vs := [.pointer (some ⟨ph.Wg, 0, none⟩)]) Cy (Xb rfl Xg) rfl (Cv (ph := ph) (A := setT A 8 0) rfl) ?_
      rintro _ _ ⟨rfl, rfl⟩
      refine wpo_neq (q := false) rfl rfl rfl rfl ?_
      refine wpo_assign (v := .bool false) rfl rfl (wpo_nil ?_)
      refine Xi (X8 rfl rfl (Xa ?_))
      refine Qz (vs := []) Xg rfl (H5 (ph := ph) (A := setT A 8 0) rfl) ?_
      rintro _ _ ⟨rfl, rfl⟩
      refine wpo_nil (Xl ?_)
      refine wpo_move (v := .pointer (some ⟨ph.Wg, 0, none⟩)) e0 rfl ?_
      refine Vu (ph := ph) Ta G4 C0 rfl (.inl rfl) (by show (9 : Nat) ≠ 0; omega) rfl ?_
      refine Qz (vs := [.pointer (some ⟨ph.Wg, 0, none⟩)]) (Xb rfl Xg) rfl (H4 (ph := ph) (A := setT A 9 0) rfl) ?_
      rintro _ B3 ⟨rfl, hF⟩
      refine wpo_nil ?_
      refine Xi (Xa ?_)
      refine wpo_move (v := .bool false) rfl rfl (wpo_nil (Ya rfl rfl (Xk (Xj ?_))))
      exact ⟨_, res0 rfl, rfl, hF⟩
    · refine wpo_nil (Ya rfl rfl (Xk ?_))
      exact ⟨j, by omega, by omega, e0, rfl⟩
end
end Go.Dw.J
end
section
namespace Go.Dw.J
open Go.Conc (QuitsD Goes G)
open Go.Conc.Lib (WgLink WgLib)
open Go.ConcR (Payload WgAt KK stA smA rd wr mk DC0)
open Go.ConcN (RW DWs AtR0 AtK1 WgLive Has EvW)
open Go.ConcN.Gen (kn_rely doneN)
set_option linter.unusedVariables false
set_option linter.unusedSimpArgs false
set_option linter.unusedSectionVars false
section
variable [Payload] {P : Program} {ty : TypeId} {Wg C n Low k : Nat} {val : Value}
def AtDis (P : Program) (g : Goroutine) (w : World) : Prop := ∃ g', stepG P false g w = .go g' w #[mk .disable]
def AtRel (P : Program) (ty : TypeId) (Wg C n Low k : Nat) (g : Goroutine) (w : World) : Prop := ∃ g', stepG P false g w = .go g' w #[mk (.releaseMerge (stA Wg))] ∧ ∃ m, Goes P false (RW ty Wg C n Low (k - 1)) DC0 (AtDis P) m g' w
theorem Rx {P : Program} {main : Bool} {R : World → World → Prop} {D' : World → World → Array Event → Prop} {S S' : Goroutine → World → Prop} (hR : ∀ w, R w w) {m m' : Nat} {g : Goroutine} {w : World}
    (hD : ∀ g w, S g w → S' g w → False) (hno : ∀ (g : Goroutine) (w : World) (g' : Goroutine) (es : Array Event), S g w → stepG P main g w = .go g' w es → ¬ D' w w es) : Goes P main R DC0 S m g w → (∀ g w, S' g w → ∃ g' es, es ≠ #[] ∧ stepG P main g w = .go g' w es) → (∀ g w, S g w → ∃ g' es, es ≠ #[] ∧ stepG P main g w = .go g' w es) → ¬ Goes P main R D' S' m' g w := by
  intro h hS' hS h'
  induction m generalizing m' g w with
  | zero =>
    rcases Goes.cases h' with h2 | ⟨m2, rfl, h2⟩
    · exact hD g w (h w (hR w)) (h2 w (hR w))
    · obtain ⟨g', w', es, h3, h4, _⟩ := h2 w (hR w)
      obtain ⟨g'', es', _, h5⟩ := hS g w (h w (hR w))
      rw [h3] at h5
      cases h5
      exact hno g w g' es (h w (hR w)) h3 h4
  | succ m ih =>
    rcases Goes.cases h with h1 | ⟨m1, e1, h1⟩
    · rcases Goes.cases h' with h2 | ⟨m2, rfl, h2⟩
      · exact hD g w (h1 w (hR w)) (h2 w (hR w))
      · obtain ⟨g', w', es, h3, h4, _⟩ := h2 w (hR w)
        obtain ⟨g'', es', _, h5⟩ := hS g w (h1 w (hR w))
        rw [h3] at h5
        cases h5
        exact hno g w g' es (h1 w (hR w)) h3 h4
    · cases e1
      obtain ⟨g', w', es, h3, ⟨rfl, rfl⟩, h4⟩ := h1 w (hR w)
      rcases Goes.cases h' with h2 | ⟨m2, rfl, h2⟩
      · obtain ⟨g'', es', h5, h6⟩ := hS' g _ (h2 _ (hR _))
        rw [h3] at h6
        cases h6
        exact h5 rfl
      · obtain ⟨g'', w'', es', h5, h6, h7⟩ := h2 _ (hR _)
        rw [h3] at h5
        cases h5
        exact ih h4 h7
theorem Hb {Own Rd : Nat → Loc → Prop} {m m' : Nat} {g : Goroutine} {w : World} (h : Goes P false (RW ty Wg C n Low (k - 1)) DC0 (AtRel P ty Wg C n Low k) m g w) (h' : Goes P false (RW ty Wg C n Low (k - 1)) (DWs Wg Own Rd C n k) (AtR0 P ty Wg C n Low k val) m' g w) :
    Goes P false (RW ty Wg C n Low (k - 1)) DC0 (AtR0 P ty Wg C n Low k val) m g w := by
  have hS' : ∀ g w, AtR0 P ty Wg C n Low k val g w → ∃ g' es, es ≠ #[] ∧ stepG P false g w = .go g' w es := fun g w ⟨_, _, g', h1, _⟩ => ⟨g', _, by simp, h1⟩
  have hstop : ∀ (g : Goroutine) (w : World) (m' : Nat), (∀ w₁, RW ty Wg C n Low (k - 1) w w₁ → AtRel P ty Wg C n Low k g w₁) → Goes P false (RW ty Wg C n Low (k - 1)) (DWs Wg Own Rd C n k) (AtR0 P ty Wg C n Low k val) m' g w → ∀ w₁, RW ty Wg C n Low (k - 1) w w₁ → AtR0 P ty Wg C n Low k val g w₁ := fun g w m' h h' w₁ h₁ => by
    rcases Goes.cases h' with h2 | ⟨m2, rfl, h2⟩
    · exact h2 w₁ h₁
    · obtain ⟨g', w', es, h3, h4, h5⟩ := h2 w₁ h₁
      obtain ⟨g'', h6, mm, h7⟩ := h w₁ h₁
      rw [h3] at h6
      cases h6
      refine absurd h5 (Rx RW.refl (fun g w ⟨g', ha⟩ ⟨_, _, g'', hb, _⟩ => ?_) (fun g w g' es ⟨g'', ha⟩ hb hc => ?_) h7 hS' fun g w ⟨g', ha⟩ => ⟨g', _, by simp, ha⟩)
      · rw [ha] at hb
        simp [mk] at hb
      · rw [ha] at hb
        cases hb
        exact (hc.2 (mk .disable) (by simp)).2.1 rfl
  induction m generalizing m' g w with
  | zero => exact hstop g w m' h h'
  | succ m ih =>
    rcases Goes.cases h with h1 | ⟨m1, e1, h1⟩
    · exact .inl (hstop g w m' h1 h')
    · cases e1
      rcases Goes.cases h' with h2 | ⟨m2, rfl, h2⟩
      · exact .inl h2
      · refine Goes.step ?_ fun w₁ h₁ => ?_
        · rcases h with h | h
          · rcases h' with h' | h'
            · exact (h' w (RW.refl w)).1
            · exact h'.1
          · exact h.1
        · obtain ⟨g', w', es, h3, ⟨rfl, rfl⟩, h4⟩ := h1 w₁ h₁
          obtain ⟨g'', w'', es', h5, h6, h7⟩ := h2 _ h₁
          rw [h3] at h5
          cases h5
          rw [h3]
          exact ⟨⟨rfl, rfl⟩, ih h4 h7⟩
end
end Go.Dw.J
end
section
namespace Go.DwD
open Go.Dw.J (AtRel Hb)
open Go.Conc Go.ConcN Go.RowKit Go.Conc.Lib Go.ConcR.Gen Go.ConcN.Gen
open Go.ConcR (KK wgBlock WgAt stA smA rd wr mk Payload Aside2 DC0)
set_option linter.unusedVariables false
set_option linter.unusedSimpArgs false
set_option linter.unusedSectionVars false
section
variable [Payload] {L : WgLink}
set_option maxRecDepth 100000 in
set_option maxHeartbeats 4000000 in
theorem M4 {P : Program} (H : WgLib P L) {Wg C n Low k : Nat} {val : Value} {c : Frame} {cs : List Frame} (w : World) (hK : WgLive L.tWg Wg w ∧ Has C (k - 1) val w) :
    Goes P false (RW L.tWg Wg C n Low (k - 1)) DC0 (AtRel P L.tWg Wg C n Low k) 23 (G ((baseD L.done).at ⟨#[.pointer (some ⟨Wg, 0, none⟩), undef, undef, undef], []⟩ [.code (body_done L)]) (c :: cs)) w := by
  lib_facts
  simp only [body_done, body_add, doneFn, addFn, Option.getD_some]
  u_reg kn_rely hK
  u_op kn_rely hK
  u_in kn_rely hK
  refine goes_call rfl rfl (by k_ne) rfl H.f_add (nm_add L) rfl ⟨by u_nil, ?_⟩
  walk_nrmf addFn
  u_c stepG_seq kn_rely hK
  u_cond true kn_rely hK
  u_c stepG_seq kn_rely hK
  u_c stepG_seq kn_rely hK
  u_reg kn_rely hK
  u_op kn_rely hK
  u_op kn_rely hK
  u_c stepG_region_end kn_rely hK
  u_cond true kn_rely hK
  u_reg kn_rely hK
  u_op kn_rely hK
  u_conv H.underlying_tWgP H.room_tWg (WgLive.cell0 hK.1).choose_spec kn_rely hK
  refine Goes.stop (fun w₁ h₁ => ?_)
  replace hK := kn_rely hK h₁
  clear h₁
  refine ⟨_, stepG_markAt .releaseMerge (by simp) rfl rfl (by k_ne) rfl H.f_relMerge (x_relMerge_n L) (x_relMerge_b L) (x_relMerge_x L) (x_relMerge_f L) (by simp [Act.eval, stA]), 10, ?_⟩
  walk_nrm
  u_c stepG_region_end kn_rely hK
  u_c stepG_seq kn_rely hK
  u_reg kn_rely hK
  refine Goes.stop (fun w₁ h₁ => ?_)
  exact ⟨_, stepG_mark0 .disable (by simp) rfl rfl (by k_ne) rfl H.f_disable (x_disable_n L) (x_disable_b L) (x_disable_x L) (x_disable_f L)⟩
theorem done_stop {P : Program} (H : WgLib P L) {Wg C : Nat} {val : Value} {c : Frame} {cs : List Frame} {qt : Nat} (hcm : c.mode = .returning) (hT : QuitsD P qt 0 (G c cs)) (w : World) (hK : WgLive L.tWg Wg w ∧ Has C 0 val w) :
    Goes P false (RW L.tWg Wg C 1 0 0) DC0 (AtR0 P L.tWg Wg C 1 0 1 val) 23 (G ((baseD L.done).at ⟨#[.pointer (some ⟨Wg, 0, none⟩), undef, undef, undef], []⟩ [.code (body_done L)]) (c :: cs)) w :=
  Hb (k := 1) (M4 H (k := 1) w hK) (doneN H (Own := fun _ _ => False) (Rd := fun _ _ => False) (n := 1) (Low := 0) (k := 1) hcm hT w hK)
end
end Go.DwD
end
section
namespace Go.Dw.J
open Go.RowKit Go.Dw Go.Proofs
open Go.ConcR (Payload)
set_option linter.unusedSectionVars false
set_option maxRecDepth 100000
set_option maxHeartbeats 4000000
set_option linter.unusedSimpArgs false
set_option linter.unusedVariables false
def OutV (ms : List MTh) (l : Lab) (i : Nat) (vs : List Value) (W : World) : Prop := ∃ q m : MTh, ms[i]? = some q ∧ vs = m.cells ∧ m.t = viewTh q.t l ∧ ThAt W m
def CMo (B B' : World) : Prop := ∀ b T c, 0 < c.size → RBlk B b T c → RBlk B' b T c
theorem E4 {B B' : World} (h : ∀ b T c, Seen B b → RBlk B b T c → RBlk B' b T c) : CMo B B' := fun b T c h0 hr => h b T c (by
  obtain ⟨fr, e⟩ := hr
  refine ⟨(Array.getElem?_eq_some_iff.1 e).1, fun e2 => ?_⟩
  rw [e] at e2
  simp [pz] at e2
  rw [e2.1] at h0; simp at h0) hr
theorem CMo.trans {B C D : World} (h : CMo B C) (k : CMo C D) : CMo B D := fun b T c h0 hr => k b T c h0 (h b T c h0 hr)
theorem Tm {B B' : World} (h : CMo B B') {a : Addr} {v : Value} (hv : B.cell? a = some v) : B'.cell? a = some v := by
  obtain ⟨c, T, fr, h1, h2, h3⟩ := Kv hv
  obtain ⟨fr', h4⟩ := h a.block T c (by have := (Array.getElem?_eq_some_iff.1 h3).1; omega) ⟨fr, h1⟩
  exact Uh h4 h2 h3
theorem Gc {B B' : World} (h : CMo B B') {a : Option Addr} {sz : Nat} {xs : List (List Value)} (hs : SlAt B a sz xs) : SlAt B' a sz xs := fun k x hk => by
  obtain ⟨b, o, ha, hr⟩ := hs k x hk
  exact ⟨b, o, ha, fun j v hj => Tm h (hr j v hj)⟩
theorem Ln {B B' : World} (h : CMo B B') {m : MTh} (hm : ThAt B m) : ThAt B' m := ⟨Gc h hm.1, Gc h hm.2.1, hm.2.2⟩
theorem Hw {B B' : World} (h : CMo B B') {a : Option Addr} {ms : List MTh} (hm : TabAt B a ms) : TabAt B' a ms := ⟨Gc h hm.1, fun m hi => Ln h (hm.2 m hi)⟩
theorem Tw {ms : List MTh} {l : Lab} (i : Nat) (vs : List Value) (B B' : World) (h : ∀ b T c, Seen B b → RBlk B b T c → RBlk B' b T c) (ho : OutV ms l i vs B) : OutV ms l i vs B' :=
  let ⟨q, m, h1, h2, h3, h4⟩ := ho; ⟨q, m, h1, h2, h3, Ln (E4 h) h4⟩
theorem Pn {α : Type} {g : α → List Value} {lo bx sz cap n : Nat} {w : World} {a : Option Addr} {T : TypeId} {ys : List α} (hg : Wide g sz) (h0 : 0 < sz) (h : OwnN lo w a T sz cap n (ys.flatMap g)) (hb : bx < lo) : SlAt (hideB w bx) a sz (ys.map g) := fun k x hk => by
  obtain ⟨b, o, ha, hr⟩ := h.sl hg h0 k x hk
  refine ⟨b, o, ha, fun j v hj => ?_⟩
  rcases h.form with ⟨h1, _⟩ | ⟨B, h1, h2, _⟩
  · rw [h1] at ha; cases ha
  · rw [h1] at ha
    simp only [Option.some.injEq, Addr.mk.injEq, and_true] at ha
    have e : b ≠ bx := by omega
    have := hr j v hj
    unfold World.cell? at this ⊢
    rw [Kb e]; exact this
theorem Po {α : Type} {g : α → List Value} {lo sz cap n : Nat} {w : World} {a : Option Addr} {T : TypeId} {ys : List α} (h : OwnN lo w a T sz cap n (ys.flatMap g)) : a = none → cap = 0 := fun e => by
  rcases h.form with ⟨_, _, h2, _⟩ | ⟨B, h1, _⟩
  · exact h2
  · rw [h1] at e; cases e
noncomputable def c40 : Code := match Try.f40.body with
  | some (.seq _ y) => y
  | _ => .skip
noncomputable def r40 : Code := match Try.f40.body with
  | some (.seq x _) => x
  | _ => .skip
theorem C3 {C n n' i bT bL bV bx : Nat} {l : Lab} {ms : List MTh} {q : MTh} {a : Option Addr} {c : Nat} {TT : TypeId} {f : Fr} {w : World} (hg : g0 w = 0) (hi : ms[i]? = some q) (hin : i < n) (hT : RBlk w bT 23 #[.slice a ms.length c]) (hI : w.heap[bx]? = some (.cells #[.int .i64 i] 3 (0, 0))) (hL : RBlk w bL 25 #[.int .i64 l.s, .int .i64 l.v]) (hV : RBlk w bV 23 #[.slice (some ⟨C, 0, none⟩) n n']) (hM : SlAt w a 8 (ms.map MTh.cells)) (hq : ThAt w q) (hn : q.t.slots.length ≤ 1048576 ∧ q.t.queue.length ≤ 1048576)
    (h1 : f 1 = .pointer (some ⟨bT, 0, none⟩)) (h2 : f 2 = .pointer (some ⟨bx, 0, none⟩)) (h3 : f 3 = .pointer (some ⟨bL, 0, none⟩)) (h4 : f 4 = .pointer (some ⟨bV, 0, none⟩)) :
    @Wpf (compW C n 8 i TT (OutV ms l i) bx (.int .i64 i) 3) Try.prog 14 (fun e F W => e = .normal ∧ g0 W = 1) c40 f w := by
  letI := compW C n 8 i TT (OutV ms l i) bx (.int .i64 i) 3
  obtain ⟨b, q0, o, ha, ho, hr⟩ := SlAt.at hM (Yh hi)
  have hlt : i < ms.length := (List.getElem?_eq_some_iff.1 hi).1
  have hIr : RBlk w bx 3 #[.int .i64 i] := ⟨_, hI⟩
  have hbx := hIr.lt
  subst ha
  refine J4 (m := 9) [[], [], [], [], [2, 3], [2, 3, 4], [], [2, 3, 4, 5, 6], [0, 1], [0, 1, 2, 3, 4, 5, 6, 7, 8]] (fun S F w' => ∃ (sa : Option Addr) (sc : Nat) (qa : Option Addr) (qc : Nat), w.grownBy w' none ∧ F 1 = .pointer (some ⟨bT, 0, none⟩) ∧ F 2 = .pointer (some ⟨bx, 0, none⟩) ∧ F 3 = .pointer (some ⟨bL, 0, none⟩) ∧ F 4 = .pointer (some ⟨bV, 0, none⟩) ∧ Vals S F [(0, 5, .slice (some ⟨C, 0, none⟩) n n'), (1, 6, .int .i64 i), (2, 7, .slice (some ⟨b, q0, none⟩) ms.length c), (3, 8, .int .i64 i), (4, 9, .pointer (some ⟨b, o, none⟩)), (5, 10, .agg #[.int .i64 q.t.kind, .int .i64 q.t.lab.s, .int .i64 q.t.lab.v, .int .i64 q.t.ve, .int .i64 q.t.num, .slice q.sa q.t.slots.length q.sc, .slice q.qa q.t.queue.length q.qc, .int .i64 q.t.to]), (6, 11, .agg #[.int .i64 l.s, .int .i64 l.v]), (8, 13, .pointer (some ⟨C, i * 8, none⟩))] ∧ (S 7 = true → F 12 = .agg (⟨viewTh q.t l, sa, sc, qa, qc⟩ : MTh).cells.toArray ∧ OwnN w.heap.size w' sa 74 5 sc (viewTh q.t l).slots.length ((viewTh q.t l).slots.flatMap Rt.cells) ∧ OwnN w.heap.size w' qa 3 1 qc (viewTh q.t l).queue.length ((viewTh q.t l).queue.flatMap icell))) Qq (by kernel_rfl) ⟨none, 0, none, 0, X5 _, h1, h2, h3, h4, U9 _, Yg⟩ ?_ ?_
  ·
    refine Xu (fun S F w1 hS hbef hcl hI' => ?_) ?_
    · obtain ⟨sa, sc, qa, qc, hw, e1, e2, e3, e4, hv, c7⟩ := hI'
      refine wpo_load1 (v := .slice (some ⟨C, 0, none⟩) n n') Kn e4 ((hV.grown0 hw).cell rfl) rfl ?_
      exact wpo_nil ⟨sa, sc, qa, qc, hw, e1, e2, e3, e4, hv.up 0 rfl rfl rfl, c7⟩
    refine Xu (fun S F w1 hS hbef hcl hI' => ?_) ?_
    · obtain ⟨sa, sc, qa, qc, hw, e1, e2, e3, e4, hv, c7⟩ := hI'
      refine wpo_load1 (v := .int .i64 i) X0 e2 ((hIr.grown0 hw).cell rfl) rfl ?_
      exact wpo_nil ⟨sa, sc, qa, qc, hw, e1, e2, e3, e4, hv.up 1 rfl rfl rfl, c7⟩
    refine Xu (fun S F w1 hS hbef hcl hI' => ?_) ?_
    · obtain ⟨sa, sc, qa, qc, hw, e1, e2, e3, e4, hv, c7⟩ := hI'
      refine wpo_load1 (v := .slice (some ⟨b, q0, none⟩) ms.length c) Kn e1 ((hT.grown0 hw).cell rfl) rfl ?_
      exact wpo_nil ⟨sa, sc, qa, qc, hw, e1, e2, e3, e4, hv.up 2 rfl rfl rfl, fun h => Xt 7 hS hcl rfl h⟩
    refine Xu (fun S F w1 hS hbef hcl hI' => ?_) ?_
    · obtain ⟨sa, sc, qa, qc, hw, e1, e2, e3, e4, hv, c7⟩ := hI'
      refine wpo_load1 (v := .int .i64 i) X0 e2 ((hIr.grown0 hw).cell rfl) rfl ?_
      exact wpo_nil ⟨sa, sc, qa, qc, hw, e1, e2, e3, e4, hv.up 3 rfl rfl rfl, fun h => Xt 7 hS hcl rfl h⟩
    refine Xu (fun S F w1 hS hbef hcl hI' => ?_) ?_
    · obtain ⟨sa, sc, qa, qc, hw, e1, e2, e3, e4, hv, c7⟩ := hI'
      have t2 := hv.at 2 rfl (Xr 2 hbef rfl)
      have t3 := hv.at 3 rfl (Xr 3 hbef rfl)
      refine X2 Qp t2 t3 rfl ho (by omega) (by omega) rfl ?_
      exact wpo_nil ⟨sa, sc, qa, qc, hw, e1, e2, e3, e4, hv.up 4 rfl rfl rfl, fun h => Xt 7 hS hcl rfl h⟩
    refine Xu (fun S F w1 hS hbef hcl hI' => ?_) ?_
    · obtain ⟨sa, sc, qa, qc, hw, e1, e2, e3, e4, hv, c7⟩ := hI'
      have t4 := hv.at 4 rfl (Xr 4 hbef rfl)
      refine wpo_loadn (vs := q.cells) Xx t4 rfl (Yp hr hw) rfl ?_
      exact wpo_nil ⟨sa, sc, qa, qc, hw, e1, e2, e3, e4, hv.up 5 rfl rfl rfl, fun h => Xt 7 hS hcl rfl h⟩
    refine Xu (fun S F w1 hS hbef hcl hI' => ?_) ?_
    · obtain ⟨sa, sc, qa, qc, hw, e1, e2, e3, e4, hv, c7⟩ := hI'
      refine wpo_loadn (vs := [.int .i64 l.s, .int .i64 l.v]) Yr e3 rfl ((hL.grown0 hw).rangeL 0 2 rfl) rfl ?_
      exact wpo_nil ⟨sa, sc, qa, qc, hw, e1, e2, e3, e4, hv.up 6 rfl rfl rfl, fun h => Xt 7 hS hcl rfl h⟩
    refine Xu (fun S F w1 hS hbef hcl hI' => ?_) ?_
    · obtain ⟨sa, sc, qa, qc, hw, e1, e2, e3, e4, hv, c7⟩ := hI'
      have t5 := hv.at 5 rfl (Xr 5 hbef rfl)
      have t6 := hv.at 6 rfl (Xr 6 hbef rfl)
      have gf42 : goFn Try.prog 42 = true := by kernel_rfl
      refine Xh (vs := [.agg #[.int .i64 q.t.kind, .int .i64 q.t.lab.s, .int .i64 q.t.lab.v, .int .i64 q.t.ve, .int .i64 q.t.num, .slice q.sa q.t.slots.length q.sc, .slice q.qa q.t.queue.length q.qc, .int .i64 q.t.to], .agg #[.int .i64 l.s, .int .i64 l.v]]) gf42 (Xb t5 (Xb t6 Xg)) rfl (Rg l _ q (hq.low hw) hn) ?_
      rintro _ w2 ⟨sa, sc, qa, qc, rfl, hO1, hO2, hg2⟩
      exact wpo_nil ⟨sa, sc, qa, qc, Xf hw hg2, e1, e2, e3, e4, hv.keep rfl, fun _ => ⟨rfl, OwnN.mono hO1 hw.size, OwnN.mono hO2 hw.size⟩⟩
    refine Xu (fun S F w1 hS hbef hcl hI' => ?_) Kj
    obtain ⟨sa, sc, qa, qc, hw, e1, e2, e3, e4, hv, c7⟩ := hI'
    have t0 := hv.at 0 rfl (Xr 0 hbef rfl)
    have t1 := hv.at 1 rfl (Xr 1 hbef rfl)
    refine wpo_indexAddr (o' := i * 8) Qp t0 t1 (by omega) (by omega) (by simp) rfl ?_
    exact wpo_nil ⟨sa, sc, qa, qc, hw, e1, e2, e3, e4, hv.up 7 rfl rfl rfl, c7⟩
  · intro S F w2 hall hI'
    obtain ⟨sa, sc, qa, qc, hw2, e1, e2, e3, e4, hv, c7⟩ := hI'
    obtain ⟨e12, hO1, hO2⟩ := c7 (hall 7 (by omega))
    have t8 := hv.at 7 rfl (hall 8 (by omega))
    refine Ef (vs := (⟨viewTh q.t l, sa, sc, qa, qc⟩ : MTh).cells) Xx t8 e12 rfl (Wm _) hin ?_ ?_ ?_ (wpo_nil ⟨rfl, rfl⟩)
    · unfold g0; rw [hw2.tape]; exact hg
    · rw [hw2.block bx hbx (by simp)]; exact hI
    · exact ⟨q, _, hi, rfl, rfl, Pn Y5 (by omega) hO1 hbx, Pn Yb (by omega) hO2 hbx, Po hO1, Po hO2⟩
end Go.Dw.J
end
section
namespace Go.Dw.J
open Go.RowKit Go.Dw Go.Proofs
open Go.Conc (G Goes QuitsD baseD born dcall)
open Go.ConcR (Payload DC0)
open Go.ConcN (RW AtR0 WgLive Has)
set_option linter.unusedSectionVars false
set_option maxRecDepth 100000
set_option maxHeartbeats 4000000
set_option linter.unusedSimpArgs false
set_option linter.unusedVariables false
instance payV : Payload := ⟨3⟩
noncomputable def bot : Frame := { (default : Frame) with fn := Try.prog.funcs.size, defers := [], mode := .panicking [goexitEntry] }
noncomputable def body40 : Code := Try.f40.body.getD .skip
def b40 : Frame := baseD 40
def call40 (Wg bT bx bL bV : Nat) : Deferred := { target := .fn (.func 40) #[.pointer (some ⟨Wg, 0, none⟩), .pointer (some ⟨bT, 0, none⟩), .pointer (some ⟨bx, 0, none⟩), .pointer (some ⟨bL, 0, none⟩), .pointer (some ⟨bV, 0, none⟩)], args := #[] }
def tm40 (Wg bT bx bL bV : Nat) : Array Value := #[.pointer (some ⟨Wg, 0, none⟩), .pointer (some ⟨bT, 0, none⟩), .pointer (some ⟨bx, 0, none⟩), .pointer (some ⟨bL, 0, none⟩), .pointer (some ⟨bV, 0, none⟩), undef, undef, undef, undef, undef, undef, undef, undef, undef]
theorem Tl (Wg bT bx bL bV : Nat) (w : World) : stepG Try.prog false (born Try.prog (call40 Wg bT bx bL bV)) w = .go (G (b40.at ⟨tm40 Wg bT bx bL bV, []⟩ [.code body40]) [bot]) w #[] := by
  simp [born, call40, tm40, stepG, unwind, callDeferred, invoke, callFunc, Try.func40, Try.f40, seen, GStep.after, G, Frame.enter, Frame.at, b40, baseD, bot, body40]
theorem Mc (a : Act) (ha : a.defers = []) : QuitsD Try.prog 2 0 (G { b40.at a [] with mode := .returning } [bot]) := by
  refine QuitsD.ctl (g' := G bot []) rfl (fun w => ?_) ?_
  · simp [G, stepG, unwind, doReturn, results, Frame.at, b40, baseD, bot, Try.func40, Try.f40, seen, GStep.after, goexitEntry, ha]
  refine QuitsD.ctl (g' := { G bot [] with status := .finished }) rfl (fun w => ?_) ⟨rfl, rfl⟩
  simp [G, stepG, unwind, bot, goexitEntry, Frame.catches]
  rfl
theorem Oj (Wg bT bx bL bV : Nat) : ∃ f : Fr, FEq 14 ⟨tm40 Wg bT bx bL bV, []⟩ f ∧ f 1 = .pointer (some ⟨bT, 0, none⟩) ∧ f 2 = .pointer (some ⟨bx, 0, none⟩) ∧ f 3 = .pointer (some ⟨bL, 0, none⟩) ∧ f 4 = .pointer (some ⟨bV, 0, none⟩) :=
  ⟨fun i => (tm40 Wg bT bx bL bV).getD i undef, ⟨rfl, rfl, fun i => rfl⟩, rfl, rfl, rfl, rfl⟩
theorem Ts {ph : Ph} {n' i bT bL bV bx : Nat} {l : Lab} {ms : List MTh} {q : MTh} {a : Option Addr} {c : Nat} {w : World} (hP : ph.P = Try.prog) (hty : ph.ty = 70) (hsz : ph.sz = 8) (hO : ph.Out = OutV ms l) (hg : g0 w = 0) (hi : ms[i]? = some q) (hin : i < ph.n) (hT : RBlk w bT 23 #[.slice a ms.length c]) (hI : w.heap[bx]? = some (.cells #[.int .i64 i] 3 (0, 0))) (hL : RBlk w bL 25 #[.int .i64 l.s, .int .i64 l.v]) (hV : RBlk w bV 23 #[.slice (some ⟨ph.C, 0, none⟩) ph.n n']) (hM : SlAt w a 8 (ms.map MTh.cells)) (hq : ThAt w q) (hn : q.t.slots.length ≤ 1048576 ∧ q.t.queue.length ≤ 1048576) :
    Kid ph (born Try.prog (call40 ph.Wg bT bx bL bV)) bx (.int .i64 i) i w := by
  obtain ⟨P, Post, ty, n, C, sz, TT, Out, Wg, s0, Shun, A0, W0⟩ := ph
  simp only at hP hty hsz hO hin hV
  subst hP hty hsz hO
  unfold Kid
  letI := compW C n 8 i TT (OutV ms l i) bx (.int .i64 i) 3
  have hJ : Closed Try.prog (GoJ Try.prog (StopW ⟨Try.prog, Post, 70, n, C, 8, TT, OutV ms l, Wg, s0, Shun, A0, W0⟩ bx (.int .i64 i))) := Rw trivial
  show GoJ Try.prog (StopW ⟨Try.prog, Post, 70, n, C, 8, TT, OutV ms l, Wg, s0, Shun, A0, W0⟩ bx (.int .i64 i)) _ w
  refine hJ.move rfl (fun w => Tl Wg bT bx bL bV w) ?_
  have e1 : body40 = .seq r40 c40 := rfl
  rw [e1]
  refine hJ.move rfl (fun w => Go.Conc.stepG_seq) ?_
  refine hJ.move rfl (fun w => Go.Conc.stepG_region (id := 0)) ?_
  refine hJ.move rfl (fun w => Go.Conc.stepG_defer (b := b40) (i := 0) (f := 41) rfl rfl (by simp [b40, baseD]) rfl) ?_
  refine hJ.move rfl (fun w => Go.Conc.stepG_region_end (b := b40)) ?_
  have e2 : Array.map (Act.eval ⟨tm40 Wg bT bx bL bV, []⟩) #[Operand.tmp 0] = #[.pointer (some ⟨Wg, 0, none⟩)] := by simp [Act.eval, tm40]
  rw [e2]
  obtain ⟨f, hf, h1, h2, h3, h4⟩ := Oj Wg bT bx bL bV
  refine C3 (n' := n') (TT := TT) hg hi hin hT hI hL hV hM hq hn h1 h2 h3 h4 _ hJ { b40 with defers := [dcall 41 #[.pointer (some ⟨Wg, 0, none⟩)]] } (by simp [b40, baseD]) [] [bot] ⟨tm40 Wg bT bx bL bV, []⟩ hf fun e a' f' A' hf' ⟨he, hg1⟩ => ?_
  subst he
  have hd := hf'.defers
  obtain ⟨tmps, ds⟩ := a'
  simp only at hd
  subst hd
  refine hJ.move rfl (fun w => Gf rfl) ?_
  refine hJ.move rfl (fun w => Go.Conc.stepG_unwind_enter (b := b40) (a := ⟨tmps, [dcall 41 #[.pointer (some ⟨Wg, 0, none⟩)]]⟩) (ds := []) (f := 41) rfl Try.func41 (by kernel_rfl) rfl) ?_
  refine Bl ⟨hg1, rfl, fun w hw => ⟨23, ?_⟩⟩
  exact Go.DwD.done_stop Od rfl (Mc ⟨tmps, []⟩ rfl) w hw
end Go.Dw.J
end
section
namespace Go.Dw.J
open Go.RowKit Go.Dw Go.Proofs
open Go.Conc (G born)
open Go.ConcR (Payload mk)
set_option linter.unusedSectionVars false
set_option linter.unusedSimpArgs false
set_option linter.unusedVariables false
set_option maxRecDepth 100000
set_option maxHeartbeats 4000000
theorem Cp {P : Program} {main : Bool} {b : Frame} {a : Act} {k : List Item} {cs : List Frame} {w w' : World} {ops : Array Oper} {i : Nat} {rest : List Nat} {o : Oper} {d : Deferred} {f : Fn} {c : Array Value} (ho : ops[i]? = some o) (hw : Region.wanted o (yielded ops a.tmps) = true) (hk : b.kind ≠ .early)
    (hr : (execOp a.eval o).run P w = .ok (.spawn d) w') (hd : d.target = .fn f c) :
    stepG P main (G (ato b a (.inRegion ops (i :: rest) :: k)) cs) w = .spawn (G (ato b (a.put o.dst undef) (.inRegion ops rest :: k)) cs) (born P d) w' (Go.Conc.listed P b.fn a o w) := by
  have hfin : (ato b a (.inRegion ops (i :: rest) :: k)).finish undef = ato b (a.put o.dst undef) (.inRegion ops rest :: k) := by rw [Ky, ho]; rfl
  have hk' : (b.kind == CallKind.early) = false := by simpa using hk
  rw [K6 ho hw (Vh hr (by simp)), ← hfin]
  simp [stepG.apply, hr, G, ato, hk', GStep.after, Go.Conc.listed, born, hd]
section
variable {ph : Ph} {A : World}
theorem Ia {n : Nat} {ops : Array Oper} {K : Fr → World → Prop} {l : List Oper} {f : Fr} {ty : TypeId} {pos : String} {aft : Array Edge} {x : Operand} {bT bx bL bV : Nat} {val : Value} (hP : ph.P = Try.prog) (h4 : g0 A = 4) (hv : g1 A < ph.n) (hbx : A.heap[bx]? = some (.cells #[val] Payload.ety (0, 0))) (hN : ph.N0 ≤ bx)
    (hx : ev f x = .func (.func 40) #[] #[.pointer (some ⟨ph.Wg, 0, none⟩), .pointer (some ⟨bT, 0, none⟩), .pointer (some ⟨bx, 0, none⟩), .pointer (some ⟨bL, 0, none⟩), .pointer (some ⟨bV, 0, none⟩)]) (hkid : Kid ph (born Try.prog (call40 ph.Wg bT bx bL bV)) bx val (g1 A) (kidW ph.N0 bx A))
    (h : @WpO (compP ph) Try.prog n ops K l f (handW A bx (g1 A + 1))) : @WpO (compP ph) Try.prog n ops K (⟨none, .go ⟨.value x, #[], #[]⟩, ty, pos, aft, none⟩ :: l) f A := by
  letI := compP ph
  intro a ha
  refine Or.inl ⟨by simp [Region.wanted], Or.inr ⟨fun v A' => A' = handW A bx (g1 A + 1), ?_, fun v A' e => ⟨f, ha, by rw [e]; exact h⟩⟩⟩
  intro J hJ b hb i rest kk cs a2 o' ho hd hw hs hk'
  have e1 : execOp a.eval ⟨none, .go ⟨.value x, #[], #[]⟩, ty, pos, aft, none⟩ = (pure (.spawn (call40 ph.Wg bT bx bL bV)) : Sem Next) := by
    rw [ha.eval]
    unfold execOp
    simp [resolve, hx, Deferred.ofValue, call40]
  have hr : ∀ w, (execOp a2.eval o').run Try.prog w = .ok (.spawn (call40 ph.Wg bT bx bL bV)) w := fun w => by rw [hs, e1]; rfl
  have hev : ∀ w, Go.Conc.listed Try.prog b.fn a2 o' w = #[] := fun w => by
    unfold Go.Conc.listed
    rw [hs, e1]
    simp [Go.Conc.seen_none]
  refine (hJ.extra : OkP ph J).go _ (G (ato b (a2.put o'.dst undef) (.inRegion ops rest :: kk)) cs) _ A bx val rfl h4 hv hbx hN (fun w => ?_) hkid (by rw [hd]; exact hk' undef _ rfl)
  rw [hP, Cp ho hw hb (hr w) rfl, hev]
end
end Go.Dw.J
end
section
namespace Go.Dw.J
open Go.RowKit Go.Dw Go.Proofs
open Go.Conc (G born)
open Go.ConcR (Payload mk)
set_option linter.unusedSectionVars false
set_option linter.unusedSimpArgs false
set_option linter.unusedVariables false
set_option maxRecDepth 100000
set_option maxHeartbeats 4000000
theorem Ob : zeroTy Try.prog 3 = some (.int .i64 0) := by kernel_rfl
theorem Nq : (match Try.prog.underlying 23 with | some (.slice _) => true | _ => false) = true := by kernel_rfl
theorem Fv : goFn Try.prog 39 = true := by kernel_rfl
theorem Fw : goFn Try.prog 43 = true := by kernel_rfl
structure VFact (ms : List MTh) (l : Lab) (a : Option Addr) (c C bT bL bV : Nat) (B : World) : Prop where
  hT : RBlk B bT 23 #[.slice a ms.length c]
  hL : RBlk B bL 25 #[.int .i64 l.s, .int .i64 l.v]
  hV : RBlk B bV 23 #[.slice (some ⟨C, 0, none⟩) ms.length ms.length]
  hM : TabAt B a ms
theorem VFact.mono {ms : List MTh} {l : Lab} {a : Option Addr} {c C bT bL bV : Nat} {B B' : World} (h : VFact ms l a c C bT bL bV B) (hm : CMo B B') : VFact ms l a c C bT bL bV B' :=
  ⟨hm _ _ _ (by simp) h.hT, hm _ _ _ (by simp) h.hL, hm _ _ _ (by simp) h.hV, Hw hm h.hM⟩
theorem Sx {B B' : World} {N : Nat} (hs : B.heap.size ≤ N) (h : ∀ b, b < N → B'.heap[b]? = B.heap[b]?) : CMo B B' := fun b T c _ ⟨fr, e⟩ => ⟨fr, (h b (Nat.lt_of_lt_of_le (Array.getElem?_eq_some_iff.1 e).1 hs)).trans e⟩
noncomputable def body12 : Code := Try.f12.body.getD .skip
noncomputable def rest12 : Code := match body12 with
  | .seq _ (.seq _ (.seq _ (.seq _ x))) => x
  | _ => .skip
theorem Mv {ph : Ph} {ms : List MTh} {l : Lab} {a : Option Addr} {c bT bL bV : Nat} {f : Fr} (hP : ph.P = Try.prog) (hty : ph.ty = 70) (hsz : ph.sz = 8) (hO : ph.Out = OutV ms l) (hn : ph.n = ms.length) (hn2 : ms.length ≤ 1048576) (hlen : TabLen ms) (hF : VFact ms l a c ph.C bT bL bV (startW ph.A0 ph.C)) (hs0 : ph.A0.heap.size = ph.Wg)
    (h2 : f 2 = .pointer (some ⟨bT, 0, none⟩)) (h3 : f 3 = .pointer (some ⟨bL, 0, none⟩)) (h5 : f 5 = .pointer (some ⟨bV, 0, none⟩)) (h6 : f 6 = .pointer (some ⟨ph.Wg, 0, none⟩)) (hVA : ∀ B w, Fin ph B w → RBlk B bV 23 #[.slice (some ⟨ph.C, 0, none⟩) ms.length ms.length]) :
    @Wpf (compP ph) Try.prog 31 (fun e F B => e = .ret ∧ F 4 = .slice (some ⟨ph.C, 0, none⟩) ms.length ms.length ∧ ∃ w, Fin ph B w) rest12 f (startW ph.A0 ph.C) := by
  letI := compP ph
  have hN31 : ph.n < 2147483648 := by omega
  have hN0 : (startW ph.A0 ph.C).heap.size = ph.N0 := by rw [Vs, hs0]; rfl
  have hWpz : (startW ph.A0 ph.C).heap[ph.Wg]? = some pz := by rw [← hs0]; exact U7
  have hWn : ¬ Seen (startW ph.A0 ph.C) ph.Wg := fun h => h.2 hWpz
  have hni : (ph.n : Int) = (ms.length : Int) := by rw [hn]
  refine Xa ?_
  refine wpo_load1 (v := .slice a ms.length c) Kn h2 (hF.hT.cell rfl) rfl ?_
  refine wpo_len Nq rfl rfl ?_
  refine Xh (vs := [.pointer (some ⟨ph.Wg, 0, none⟩), .int .i64 (ph.n : Int)]) Fv (Xb h6 (Xb (by rw [hni]; rfl) Xg)) rfl (Ie (ph := ph) rfl hWn hN31) ?_
  rintro _ _ ⟨rfl, rfl⟩
  refine wpo_nil ?_
  refine Xi (Xa ?_)
  refine wpo_load1 (v := .slice a ms.length c) Kn h2 (hF.hT.cell rfl) rfl ?_
  refine wpo_len Nq rfl rfl ?_
  refine wpo_move (v := .int .i64 ((0 : Nat) : Int)) rfl rfl (wpo_nil ?_)
  refine Xv ?_
  refine Ye (fun m F B => ∃ j : Nat, j + m = ms.length ∧ g0 B = 4 ∧ g1 B = j ∧ ph.N0 ≤ B.heap.size ∧ (∀ b, b < ph.N0 → B.heap[b]? = (startW ph.A0 ph.C).heap[b]?) ∧ F 2 = .pointer (some ⟨bT, 0, none⟩) ∧ F 3 = .pointer (some ⟨bL, 0, none⟩) ∧ F 5 = .pointer (some ⟨bV, 0, none⟩) ∧ F 6 = .pointer (some ⟨ph.Wg, 0, none⟩) ∧ F 23 = .int .i64 (ms.length : Int) ∧ F 24 = .int .i64 (j : Int)) ms.length
    ⟨0, by omega, rfl, rfl, Nat.le_of_eq hN0.symm, fun b _ => rfl, h2, h3, h5, h6, rfl, rfl⟩ fun m F B ⟨j, hjm, hg0, hg1, hsz2, hlow, e2, e3, e5, e6, e23, e24⟩ => ?_
  have hFB : VFact ms l a c ph.C bT bL bV B := hF.mono (Sx (Nat.le_of_eq hN0) hlow)
  refine Xa ?_
  by_cases hj : j < ms.length
  · refine wpo_lss (q := true) e24 e23 (by simp; omega) rfl (wpo_nil ?_)
    refine Xi (X8 rfl rfl (Xk ?_))
    refine Xi (Xv (Xa ?_))
    refine wpo_move (v := .int .i64 (j : Int)) e24 rfl ?_
    refine wpo_alloc (cs := #[.int .i64 0]) Ob rfl rfl ?_
    intro bx B1 hN
    refine wpo_store1 (v := .int .i64 (j : Int)) (cs' := #[.int .i64 (j : Int)]) X0 rfl rfl rfl hN.blk (Nat.le_of_ble_eq_true rfl) rfl ?_
    intro B2 hS
    have hbxN : ph.N0 ≤ bx := Nat.le_trans hsz2 hN.ge
    have hlow2 : ∀ b, b < ph.N0 → B2.heap[b]? = (startW ph.A0 ph.C).heap[b]? := fun b hb => by
      rw [hS.grw.block b (Nat.lt_of_lt_of_le hb (Nat.le_trans hsz2 hN.grw.size)) (by simp; omega), hN.grw.block b (Nat.lt_of_lt_of_le hb hsz2) (by simp), hlow b hb]
    have ht2 : B2.tape = B.tape := hS.grw.tape.trans hN.grw.tape
    have hg02 : g0 B2 = 4 := by unfold g0; rw [ht2]; exact hg0
    have hg12 : g1 B2 = j := by unfold g1; rw [ht2]; exact hg1
    have hsB2 : ph.N0 ≤ B2.heap.size := Nat.le_trans hsz2 (Nat.le_trans hN.grw.size hS.grw.size)
    have hbx : B2.heap[bx]? = some (.cells #[.int .i64 (j : Int)] Payload.ety (0, 0)) := hS.blk
    refine wpo_nil (Xl ?_)
    refine wpo_makeFunc (vs := [.pointer (some ⟨ph.Wg, 0, none⟩), .pointer (some ⟨bT, 0, none⟩), .pointer (some ⟨bx, 0, none⟩), .pointer (some ⟨bL, 0, none⟩), .pointer (some ⟨bV, 0, none⟩)]) (Xb e6 (Xb e2 (Xb rfl (Xb e3 (Xb e5 Xg))))) rfl ?_
    have hFk : VFact ms l a c ph.C bT bL bV (kidW ph.N0 bx B2) := hF.mono (Sx (Nat.le_of_eq hN0) fun b hb => (Vn (.inl hb)).trans (hlow2 b hb))
    obtain ⟨q, hq⟩ := Qc hj
    refine Ia (ph := ph) (bT := bT) (bx := bx) (bL := bL) (bV := bV) (val := .int .i64 (j : Int)) hP hg02 (by omega) hbx hbxN rfl ?_ ?_
    · rw [hg12]
      exact Ts (q := q) (n' := ms.length) hP hty hsz hO rfl hq (by omega) hFk.hT ((Vn (.inr rfl)).trans hbx) hFk.hL (by rw [hn]; exact hFk.hV) hFk.hM.1 (hFk.hM.th hq) (hlen.at hq)
    · refine wpo_nil (Xl ?_)
      refine wpo_add (c := ((j + 1 : Nat) : Int)) e24 rfl (by omega) (by omega) (by omega) rfl ?_
      refine wpo_move (v := .int .i64 ((j + 1 : Nat) : Int)) rfl rfl (wpo_nil ?_)
      refine ⟨m - 1, by omega, j + 1, by omega, rfl, by rw [hg12]; rfl, by show _ ≤ (B2.heap.setIfInBounds bx pz).size; simpa using hsB2, fun b hb => ?_, e2, e3, e5, e6, e23, rfl⟩
      exact (Kb (by omega)).trans (hlow2 b hb)
  · refine wpo_lss (q := false) e24 e23 (by simp; omega) rfl (wpo_nil ?_)
    refine Xi (Ya rfl rfl (Yj ?_))
    have hjn : j = ms.length := by omega
    have hWB : ¬ Seen B ph.Wg := fun h => h.2 ((hlow ph.Wg (by unfold Ph.N0; omega)).trans hWpz)
    simp only [thn, blk, ↓reduceIte]
    refine Xa ?_
    refine Xh (vs := [.pointer (some ⟨ph.Wg, 0, none⟩)]) Fw (Xb e6 Xg) rfl (F7 (ph := ph) hP hg0 (by rw [hg1, hjn, hn]) hWB hN31) ?_
    rintro _ B' ⟨rfl, w, hFin⟩
    refine wpo_nil (Xa ?_)
    refine wpo_load1 (v := .slice (some ⟨ph.C, 0, none⟩) ms.length ms.length) Kn e5 ((hVA B' w hFin).cell rfl) rfl ?_
    refine wpo_assign (v := .slice (some ⟨ph.C, 0, none⟩) ms.length ms.length) rfl rfl (wpo_nil (Xj ?_))
    exact ⟨rfl, rfl, w, hFin⟩
end Go.Dw.J
end
section
namespace Go.Dw.J
open Go.RowKit Go.Dw Go.Proofs
open Go.Conc (G born)
open Go.ConcR (Payload wgBlock mk)
set_option linter.unusedSectionVars false
set_option linter.unusedSimpArgs false
set_option linter.unusedVariables false
set_option maxRecDepth 100000
set_option maxHeartbeats 4000000
def viewTab (ts : List Th) (l : Lab) : List Th := if (tableOk ts && labelOk l) = true then ts.map (viewTh · l) else []
def ViewR (ms : List MTh) (l : Lab) (w : World) (v : Value) (B : World) : Prop := ∃ (us : List MTh) (a' : Option Addr) (c' : Nat), v = .slice a' us.length c' ∧ tabT us = viewTab (tabT ms) l ∧ TabAt B a' us ∧ (a' = none → c' = 0) ∧ w.grownBy B none
theorem Li {P : Nat → List Value → MTh → Prop} : ∀ (vss : List (List Value)) (o : Nat), (∀ i vs, vss[i]? = some vs → ∃ m, P (o + i) vs m) → ∃ us : List MTh, us.length = vss.length ∧ ∀ i u, us[i]? = some u → ∃ vs, vss[i]? = some vs ∧ P (o + i) vs u
  | [], _, _ => ⟨[], rfl, fun i u h => by simp at h⟩
  | vs :: vss, o, h => by
    obtain ⟨m, hm⟩ := h 0 vs rfl
    obtain ⟨us, h1, h2⟩ := Li vss (o + 1) fun i v hv => by
      obtain ⟨m, hm⟩ := h (i + 1) v hv
      exact ⟨m, by rw [show o + 1 + i = o + (i + 1) by omega]; exact hm⟩
    refine ⟨m :: us, by simp [h1], fun i u hu => ?_⟩
    cases i with
    | zero => simp at hu; subst hu; exact ⟨vs, rfl, hm⟩
    | succ i =>
      obtain ⟨v, h3, h4⟩ := h2 i u (by simpa using hu)
      exact ⟨v, by simpa using h3, by rw [show o + (i + 1) = o + 1 + i by omega]; exact h4⟩
theorem Mw {ms : List MTh} {l : Lab} {C : Nat} {B : World} {vss : List (List Value)} (hl : vss.length = ms.length) (h : ∀ i vs, vss[i]? = some vs → vs.length = 8 ∧ OutV ms l i vs B) (hC : ms.length ≠ 0 → B.heap[C]? = some (.cells vss.flatten.toArray 35 (0, 0))) :
    ∃ us : List MTh, us.length = ms.length ∧ tabT us = (tabT ms).map (viewTh · l) ∧ TabAt B (some ⟨C, 0, none⟩) us := by
  obtain ⟨us, h1, h2⟩ := Li (P := fun i vs m => ∃ q, ms[i]? = some q ∧ vs = m.cells ∧ m.t = viewTh q.t l ∧ ThAt B m) vss 0 fun i vs hv => by
    obtain ⟨_, q, m, h3⟩ := h i vs hv
    exact ⟨m, q, by simpa using h3⟩
  have hlen : us.length = ms.length := h1.trans hl
  have hvs : vss = us.map MTh.cells := by
    apply List.ext_getElem?
    intro i
    rw [List.getElem?_map]
    cases hu : us[i]? with
    | none =>
      have := List.getElem?_eq_none_iff.1 hu
      rw [List.getElem?_eq_none (by omega)]; rfl
    | some u =>
      obtain ⟨vs, h3, q, _, h4, _⟩ := h2 i u hu
      rw [h3, h4]; rfl
  refine ⟨us, hlen, ?_, ?_, fun m hm => ?_⟩
  · apply List.ext_getElem?
    intro i
    unfold tabT
    rw [List.getElem?_map, List.getElem?_map, List.getElem?_map]
    cases hu : us[i]? with
    | none =>
      have := List.getElem?_eq_none_iff.1 hu
      rw [List.getElem?_eq_none (l := ms) (by omega)]; rfl
    | some u =>
      obtain ⟨vs, _, q, h3, _, h4, _⟩ := h2 i u hu
      rw [Nat.zero_add] at h3
      rw [h3]
      simp [h4]
  · rcases Nat.eq_zero_or_pos ms.length with h0 | h0
    · have : us = [] := List.eq_nil_of_length_eq_zero (by omega)
      subst this
      intro k x hk; simp at hk
    · refine Je (g := MTh.cells) (T := 35) Ym ?_
      have := hC (by omega)
      rw [hvs, ← List.flatMap_def] at this
      exact this
  · obtain ⟨i, hi⟩ := List.mem_iff_getElem?.1 hm
    obtain ⟨vs, _, q, _, _, _, h4⟩ := h2 i m hi
    exact h4
structure VPre (w : World) (ms : List MTh) (l : Lab) (a : Option Addr) (c C bT bL bV : Nat) (B : World) : Prop where
  hM : TabAt w a ms
  grw : w.grownBy B none
  geC : w.heap.size ≤ C
  blk : Blk B C 35 ((List.replicate ms.length MTh.zero).flatMap MTh.cells).toArray
  hT : RBlk B bT 23 #[.slice a ms.length c]
  hL : RBlk B bL 25 #[.int .i64 l.s, .int .i64 l.v]
  hV : RBlk B bV 23 #[.slice (some ⟨C, 0, none⟩) ms.length ms.length]
  neT : bT ≠ C
  neL : bL ≠ C
  neV : bV ≠ C
theorem Vr {A0 : World} {C b : Nat} {T : TypeId} {c : Array Value} (h : RBlk A0 b T c) (h0 : 0 < c.size) (hne : b ≠ C) : RBlk (startW A0 C) b T c := by
  obtain ⟨fr, e⟩ := h
  refine ⟨(0, c.size), ?_⟩
  rw [Ut e, if_neg hne]
  simp [roO, ro, show c.size ≠ 0 by omega]
theorem Wq {A : World} {N b : Nat} {T : TypeId} {c : Array Value} (h : RBlk A b T c) : RBlk (padW A N) b T c := by
  obtain ⟨fr, e⟩ := h
  exact ⟨fr, by rw [(Wo A N).get (Array.getElem?_eq_some_iff.1 e).1]; exact e⟩
theorem VPre.fact {w : World} {ms : List MTh} {l : Lab} {a : Option Addr} {c C bT bL bV N : Nat} {B : World} (h : VPre w ms l a c C bT bL bV B) : VFact ms l a c C bT bL bV (startW (padW B N) C) := by
  refine ⟨Vr (Wq h.hT) (by simp) h.neT, Vr (Wq h.hL) (by simp) h.neL, Vr (Wq h.hV) (by simp) h.neV, Hw (fun b T c h0 hr => ?_) h.hM⟩
  exact Vr (Wq (hr.grown0 h.grw)) h0 (by have := hr.lt; have := h.geC; omega)
theorem Ez : zeroTy Try.prog 70 = some (.agg #[.int .u64 0, .int .u32 0]) := by kernel_rfl
theorem Tg (ρ : Operand → Value) (w : World) (ty : TypeId) (pos : String) (aft : Array Edge) : (execOp ρ ⟨some 6, .alloc 70, ty, pos, aft, none⟩).run Try.prog w = .ok (.value (.pointer (some ⟨w.heap.size, 0, none⟩))) (w.alloc (.cells #[.int .u64 0, .int .u32 0] 70)) := by
  simp [execOp, Instr.alloc, Ht Ez, newVar, newRow, newObj, Value.cells]; rfl
theorem Lw (ρ : Operand → Value) (w : World) (ty : TypeId) (pos : String) (aft : Array Edge) : (execOp ρ ⟨some 6, .alloc 70, ty, pos, aft, none⟩).events Try.prog w #[] = #[] := by
  simp [execOp, Instr.alloc, Ht Ez, newVar, newRow, newObj, Value.cells]; rfl
noncomputable def r12 : Code := match body12 with
  | .seq _ (.seq _ (.seq _ (.seq x _))) => x
  | _ => .skip
def OKB [KeepD] (w : World) (ms : List MTh) (l : Lab) (J : Goroutine → World → Prop) : Prop :=
  ∀ (b : Frame) (k : List Item) (cs : List Frame) (a : Act) (f : Fr) (B : World) (ad : Option Addr) (c C bT bL bV : Nat), b.kind ≠ .early → FEq 31 a f → VPre w ms l ad c C bT bL bV B → KeepD.B0 ≤ w.heap.size → w.tape = mkT [] → TabLen ms → ms.length ≤ 1048576 → f 2 = .pointer (some ⟨bT, 0, none⟩) → f 3 = .pointer (some ⟨bL, 0, none⟩) → f 5 = .pointer (some ⟨bV, 0, none⟩) →
    (∀ (a' : Act) (f' : Fr) (B' : World), FEq 31 a' f' → (∃ us : List MTh, f' 4 = .slice (some ⟨C, 0, none⟩) us.length us.length ∧ tabT us = (tabT ms).map (viewTh · l) ∧ TabAt B' (some ⟨C, 0, none⟩) us ∧ w.grownBy B' none) → contJ J b k cs .ret a' B') →
    J (G (ato b a (.code (.seq r12 rest12) :: k)) cs) B
theorem okb [KeepD] {Post : Value → World → Prop} {w : World} {ms : List MTh} {l : Lab} : OKB w ms l (Bes Try.prog Post) := by
  intro b k cs a f B ad c C bT bL bV hb hf hV hB0 ht hlen hn2 h2 h3 h5 hc
  have hJB := Ku (P := Try.prog) (Post := Post) (fun _ => True) trivial
  refine @Closed.move (comp0 fun _ => True) _ _ _ hJB _ _ rfl (fun w => stepG_seq) ?_
  have er : ∃ o : Oper, r12 = .region 4 #[o] false ∧ o = ⟨some 6, .alloc 70, o.type, o.pos, o.after, none⟩ := ⟨_, rfl, rfl⟩
  obtain ⟨o, er, eo⟩ := er
  rw [er]
  refine @Closed.move (comp0 fun _ => True) _ _ _ hJB _ _ rfl (fun w => stepG_region) ?_
  have hCb := hV.blk
  have hsC : ((List.replicate ms.length MTh.zero).flatMap MTh.cells).toArray.size = ms.length * 8 := by
    rw [List.size_toArray, Y6 Ym, List.length_replicate]
  have hseen : Seen B C := ⟨hCb.lt, fun e => by
    have e2 : B.heap[C]? = some (.cells ((List.replicate ms.length MTh.zero).flatMap MTh.cells).toArray 35 (0, 0)) := hCb
    rw [e2] at e
    simp [pz] at e⟩
  have hBt : B.tape = mkT [] := hV.grw.tape.trans ht
  refine Ti (P := Try.prog) (Post := Post) (A := B) rfl (ty := 70) (n := ms.length) (C := C) (sz := 8) (TT := 35) (Out := OutV ms l) (fun Wg => G (ato b (a.put (some 6) (.pointer (some ⟨Wg, 0, none⟩))) (.inRegion #[o] [] :: .code rest12 :: k)) cs) (fun w1 => ?_) hseen (Nat.le_trans hB0 hV.geC) (fun hn0 => ⟨_, hCb, hsC, by rw [hsC]; omega⟩) (fun i vs B B' h ho => Tw i vs B B' h ho) (fun Wg s0 Shun W0 hWg hG hK => ?_)
  · have hr : (execOp a.eval o).run Try.prog w1 = .ok (.value (.pointer (some ⟨w1.heap.size, 0, none⟩))) (w1.alloc (.cells #[.int .u64 0, .int .u32 0] 70)) := by rw [eo]; exact Tg _ _ _ _ _
    have he : Go.Conc.listed Try.prog b.fn a o w1 = #[] := by
      unfold Go.Conc.listed
      rw [eo, Lw]
      exact Go.Conc.seen_none _ _
    have := Kk (P := Try.prog) (main := true) (b := b) (a := a) (k := .code rest12 :: k) (cs := cs) (ops := #[o]) (i := 0) (rest := []) (o := o) rfl (by rw [eo]; simp [Region.wanted]) hb hr
    rw [he] at this
    rw [show o.dst = some 6 by rw [eo]] at this
    exact this
  · generalize hph : (⟨Try.prog, Post, 70, ms.length, C, 8, 35, OutV ms l, Wg, s0, Shun, padW B Wg, W0⟩ : Ph) = ph at hG hK ⊢
    have eP : ph.P = Try.prog := by rw [← hph]
    have ePo : ph.Post = Post := by rw [← hph]
    have en : ph.n = ms.length := by rw [← hph]
    have eC : ph.C = C := by rw [← hph]
    have eW : ph.Wg = Wg := by rw [← hph]
    have eA : ph.A0 = padW B Wg := by rw [← hph]
    have esz : ph.sz = 8 := by rw [← hph]
    have eTT : ph.TT = 35 := by rw [← hph]
    have eO : ph.Out = OutV ms l := by rw [← hph]
    have hJ : @Closed (compP ph) Try.prog (JP ph) := by
      have := Tq hG hK (by rw [en]; omega)
      rwa [eP] at this
    have hlow : ∀ B' w1, Fin ph B' w1 → ∀ b', b' < B.heap.size → b' ≠ C → B'.heap[b']? = B.heap[b']? := fun B' w1 hF b' hb' hne => by
      rw [hF.low b' (by rw [eW]; omega) (by rw [eC]; exact hne), eA, (Wo B Wg).get hb']
    refine @Closed.move (compP ph) _ _ _ hJ _ _ rfl (fun w => stepG_region_end) ?_
    have hF := hV.fact (N := Wg)
    rw [← eA, ← eC] at hF
    have := Mv (ph := ph) (f := up f 6 (.pointer (some ⟨Wg, 0, none⟩))) eP (by rw [← hph]) esz eO en hn2 hlen hF (by rw [eA, eW]; exact La hWg) h2 h3 h5 (by rw [eW]; rfl) (fun B' w1 hFn => ?_) (JP ph) hJ b hb k cs _ (hf.put (d := 6) rfl (.pointer (some ⟨Wg, 0, none⟩))) fun e a' f' B' hf' ⟨he, e4, w1, hFn⟩ => ?_
    · rw [eA, eC] at this
      exact this
    · obtain ⟨fr, e⟩ := hV.hV
      rw [eC]
      exact ⟨fr, (hlow B' w1 hFn bV (Array.getElem?_eq_some_iff.1 e).1 hV.neV).trans e⟩
    · subst he
      obtain ⟨vss, hv1, hv2, hv3⟩ := hFn.rows
      rw [eC, eTT, en] at hv3
      rw [esz, eO] at hv2
      obtain ⟨us, hu1, hu2, hu3⟩ := Mw (hv1.trans en) hv2 hv3
      have hext := Wo B Wg
      have hgr : w.grownBy B' none := by
        refine ⟨?_, hFn.tape.trans ht.symm, ?_, ?_, fun b' hb' _ => ?_⟩
        · rw [hFn.os, eA]; exact hV.grw.os
        · rw [hFn.output, eA]; exact hV.grw.output
        · have h1 := hFn.size
          have h2 := hV.grw.size
          rw [eW] at h1
          omega
        · have h1 := hV.grw.size
          have h2 := hV.geC
          rw [hlow B' w1 hFn b' (by omega) (by omega)]
          exact hV.grw.block b' hb' (by simp)
      intro k2
      refine ⟨fun _ => ?_, fun h => absurd (show g0 B' = 0 by unfold g0; rw [hFn.tape]; rfl) h⟩
      rw [eP, ePo]
      exact hc a' f' B' hf' ⟨us, by rw [e4, hu1, eC], hu2, hu3, hgr⟩ k2
end Go.Dw.J
end
section
namespace Go.Dw.J
open Go.RowKit Go.Dw Go.Proofs
open Go.Conc (G born)
set_option linter.unusedSectionVars false
set_option linter.unusedSimpArgs false
set_option linter.unusedVariables false
set_option maxRecDepth 100000
set_option maxHeartbeats 4000000
theorem Ft : goFn Try.prog 37 = true := by kernel_rfl
theorem Fu : goFn Try.prog 38 = true := by kernel_rfl
theorem F6 : zeroTy Try.prog 23 = some (.slice none 0 0) := by kernel_rfl
theorem Lq {ms : List MTh} {l : Lab} {w B : World} (h : (tableOk (tabT ms) && labelOk l) = false) (hg : w.grownBy B none) : ViewR ms l w (.slice none 0 0) B :=
  ⟨[], none, 0, rfl, by unfold viewTab; rw [h]; rfl, ⟨fun k x hk => by simp at hk, fun m hm => by simp at hm⟩, fun _ => rfl, hg⟩
theorem F4 [KeepD] {w : World} {ms : List MTh} {a : Option Addr} {c : Nat} {l : Lab} (ht : w.tape = mkT []) (hB0 : KeepD.B0 ≤ w.heap.size) (hM : TabAt w a ms) (hlen : TabLen ms) (hn : ms.length ≤ 1048576) : @CallsR (comp0 (OKB w ms l)) Try.prog 12 #[.slice a ms.length c, .agg #[.int .i64 l.s, .int .i64 l.v]] w (ViewR ms l w) := by
  letI := comp0 (OKB w ms l)
  refine Xp (n := 31) Try.func12 rfl Try.ntmps12 rfl ?_
  refine Xa ?_
  refine wpo_box (v := .slice a ms.length c) (cs := #[.slice a ms.length c]) rfl rfl rfl ?_
  intro bT w1 hN1
  refine wpo_box (v := .agg #[.int .i64 l.s, .int .i64 l.v]) (cs := #[.int .i64 l.s, .int .i64 l.v]) rfl rfl rfl ?_
  intro bL w2 hN2
  refine wpo_assign (v := .slice none 0 0) rfl rfl (wpo_nil ?_)
  have hg2 := Xf hN1.grw hN2.grw
  have hT2 := hN1.blk.grown0 hN2.grw
  refine Xi (Xa ?_)
  refine wpo_load1 (v := .slice a ms.length c) Kn rfl (hT2.cell rfl) rfl ?_
  refine Xh (vs := [.slice a ms.length c]) Ft (Xb rfl Xg) rfl (Ka _ ms a c (hM.low hg2) hlen hn) ?_
  rintro _ w3 ⟨rfl, hg3⟩
  have hT3 := hT2.grown0 hg3
  have hL3 := hN2.blk.grown0 hg3
  have hgw3 := Xf hg2 hg3
  refine wpo_not (b' := !tableOk (tabT ms)) rfl rfl rfl ?_
  refine wpo_move (v := .bool (!tableOk (tabT ms))) rfl rfl ?_
  cases h1 : tableOk (tabT ms) with
  | false =>
    refine Xe rfl rfl rfl rfl rfl ?_
    refine Xe rfl rfl rfl rfl rfl ?_
    refine Xe rfl rfl rfl rfl rfl ?_
    refine wpo_pickt (v := .bool true) rfl rfl rfl rfl (wpo_nil (X8 rfl rfl ?_))
    refine Xa (wpo_assign (v := .slice none 0 0) rfl rfl (wpo_nil (Xj ?_)))
    exact ⟨_, res1 rfl rfl, Lq (by rw [h1]; rfl) hgw3⟩
  | true =>
    refine Xc rfl rfl rfl rfl ?_
    refine wpo_loadn (vs := [.int .i64 l.s, .int .i64 l.v]) Yr rfl rfl (hL3.rangeL 0 2 rfl) rfl ?_
    refine Xc rfl rfl rfl rfl ?_
    refine Xh (vs := [.agg #[.int .i64 l.s, .int .i64 l.v]]) Fu (Xb rfl Xg) rfl (J1 l _) ?_
    rintro _ w4 ⟨rfl, hg4⟩
    have hT4 := hT3.grown0 hg4
    have hL4 := hL3.grown0 hg4
    have hgw4 := Xf hgw3 hg4
    refine Xc rfl rfl rfl rfl ?_
    refine wpo_not (b' := !labelOk l) rfl rfl rfl ?_
    refine wpo_pickf (v := .bool (!labelOk l)) rfl rfl rfl rfl (wpo_nil ?_)
    cases h2 : labelOk l with
    | false =>
      refine X8 rfl rfl ?_
      refine Xa (wpo_assign (v := .slice none 0 0) rfl rfl (wpo_nil (Xj ?_)))
      exact ⟨_, res1 rfl rfl, Lq (by rw [h1, h2]; rfl) hgw4⟩
    | true =>
      refine Ya rfl rfl (Xk ?_)
      refine Xa ?_
      refine wpo_load1 (v := .slice a ms.length c) Kn rfl (hT4.cell rfl) rfl ?_
      refine wpo_len Nq rfl rfl ?_
      refine wpo_make (g := MTh.cells) (z := MTh.zero) (c := ms.length) S4 rfl Ym (by omega) rfl rfl (by omega) (by omega) rfl ?_
      intro C w5 hN5
      refine wpo_alloc (cs := #[.slice none 0 0]) F6 rfl rfl ?_
      intro bV w6 hN6
      refine wpo_store1 (v := .slice (some ⟨C, 0, none⟩) ms.length ms.length) (cs' := #[.slice (some ⟨C, 0, none⟩) ms.length ms.length]) Kn rfl rfl rfl hN6.blk (Nat.le_of_ble_eq_true rfl) rfl ?_
      intro w7 hS7
      refine wpo_nil ?_
      have hbTl := hT4.lt
      have hbLl := hL4.lt
      have hCl := hN5.blk.lt
      have hV6 := hN6.ge
      have hC5 := hN5.ge
      have hs5 := hN5.grw.size
      have hs4 := hgw4.size
      have h56 := hN6.grw
      have hg45 := hN5.grw
      have pre : VPre w ms l a c C bT bL bV w7 := by
        refine ⟨hM, ?_, by omega, (hN5.blk.grown0 h56).grown hS7.grw (by simp; omega), ⟨(0, 0), ((hT4.grown0 hg45).grown0 h56).grown hS7.grw (by simp; omega)⟩, ⟨(0, 0), ((hL4.grown0 hg45).grown0 h56).grown hS7.grw (by simp; omega)⟩, ⟨(0, 0), hS7.blk⟩, by omega, by omega, by omega⟩
        have hg6 := Xf (Xf hgw4 hg45) h56
        exact ⟨hS7.grw.os.trans hg6.os, hS7.grw.tape.trans hg6.tape, hS7.grw.output.trans hg6.output, Nat.le_trans hg6.size hS7.grw.size, fun b hb _ => (hS7.grw.block b (Nat.lt_of_lt_of_le hb hg6.size) (by simp; omega)).trans (hg6.block b hb (by simp))⟩
      intro J hJ b hb k cs a' ha hcont
      refine (hJ.extra : OKB w ms l J) b k cs a' _ w7 a c C bT bL bV hb ha pre hB0 ht hlen hn rfl rfl rfl fun a'' f' B' hf' ⟨us, e4, hu2, hu3, hgB⟩ => ?_
      exact hcont .ret a'' f' B' hf' ⟨_, res1 rfl e4, us, some ⟨C, 0, none⟩, us.length, rfl, by rw [hu2]; unfold viewTab; rw [h1, h2]; rfl, hu3, (fun h => by cases h), hgB⟩
def OKV [KeepD] (J : Goroutine → World → Prop) : Prop :=
  ∀ (w : World) (ms : List MTh) (a : Option Addr) (c : Nat) (l : Lab), KeepD.B0 ≤ w.heap.size → TabAt w a ms → TabLen ms → ms.length ≤ 1048576 → ∀ (cf : Frame) (cs : List Frame), (∀ v B, ViewR ms l w v B → J (G (cf.finish v) cs) B) →
    J (G (Frame.enter Try.prog 12 #[.slice a ms.length c, .agg #[.int .i64 l.s, .int .i64 l.v]] .normal) (cf :: cs)) w
theorem okv [KeepD] {Post : Value → World → Prop} : OKV (Bes Try.prog Post) := by
  intro w ms a c l hB0 hM hlen hn cf cs hk
  by_cases ht : w.tape = mkT []
  · exact F4 ht hB0 hM hlen hn _ (Ku (OKB w ms l) okb) cf cs hk
  · exact fun gs w' sl t q Shun I => absurd I.tape ht
class ViewRule [Comp] where
  base : Nat
  rule : ∀ (w : World) (ms : List MTh) (a : Option Addr) (c : Nat) (l : Lab), base ≤ w.heap.size → TabAt w a ms → TabLen ms → ms.length ≤ 1048576 → CallsR Try.prog 12 #[.slice a ms.length c, .agg #[.int .i64 l.s, .int .i64 l.v]] w (ViewR ms l w)
@[instance_reducible] def viewRule [KeepD] : @ViewRule (comp0 OKV) :=
  @ViewRule.mk (comp0 OKV) KeepD.B0 fun w ms a c l hB0 hM hlen hn J hJ cf cs hk => (@Closed.extra (comp0 OKV) _ _ hJ : OKV J) w ms a c l hB0 hM hlen hn cf cs hk
end Go.Dw.J
end
section
namespace Go.Dw.J
open Go.RowKit Go.Dw Go.Proofs
set_option linter.unusedSectionVars false
set_option maxRecDepth 100000
set_option maxHeartbeats 4000000
set_option linter.unusedSimpArgs false
set_option linter.unusedVariables false
theorem F3 : goFn Try.prog 93 = true := by kernel_rfl
theorem F2 : goFn Try.prog 92 = true := by kernel_rfl
theorem Fy : goFn Try.prog 59 = true := by kernel_rfl
theorem Fx : goFn Try.prog 44 = true := by kernel_rfl
theorem Fq : goFn Try.prog 15 = true := by kernel_rfl
theorem Fs : goFn Try.prog 16 = true := by kernel_rfl
def RT (lo : Nat) (w : World) (ys : List MTh) : Prop := ∀ m ∈ ys, RowO 74 3 lo w m
section
variable {lo : Nat} {w w' : World} {ys : List MTh}
theorem RT.low (h : RT lo w ys) (hg : w.grownBy w' none) : RT lo w' ys := fun m hm => (h m hm).low hg
theorem RT.typ {B sz cap n : Nat} {us : List Value} (h : RT lo w ys) (hg : w.grownBy w' (some B)) (k : Own w B 35 sz cap n us) : RT lo w' ys := fun m hm => (h m hm).typ hg k (by decide) (by decide)
theorem RT.set {k : Nat} {z : MTh} (h : RT lo w ys) (hz : RowO 74 3 lo w z) : RT lo w (ys.set k z) := fun m hm => by
  rcases List.mem_or_eq_of_mem_set hm with h1 | h1
  · exact h m h1
  · rw [h1]; exact hz
theorem Gy {B cap k : Nat} {y : MTh} (h : Own w B 35 8 cap ys.length (ys.flatMap MTh.cells)) (hy : ys[k]? = some y) : w.rangeAt B (k * 8) y.cells := by
  obtain ⟨b, o, ha, hr⟩ := Own.sl Ym h k _ (Yh hy)
  simp only [Option.some.injEq, Addr.mk.injEq, and_true] at ha
  obtain ⟨rfl, rfl⟩ := ha
  simpa using hr
end
theorem _root_.Go.World.grownBy.gn0 {w w' w'' : World} {r : Option Nat} (h : w.grownBy w' r) (hg : w'.grownBy w'' none) : w.grownBy w'' r :=
  ⟨hg.os.trans h.os, hg.tape.trans h.tape, hg.output.trans h.output, Nat.le_trans h.size hg.size, fun b hb hn => (hg.block b (Nat.lt_of_lt_of_le hb h.size) (by simp)).trans (h.block b hb hn)⟩
section
variable [Comp]
theorem Pz (k to : Int) (l : Lab) (w : World) : CallsR Try.prog 93 #[.int .i64 k, .agg #[.int .i64 l.s, .int .i64 l.v], .int .i64 to] w (fun v w' => ∃ (sa : Option Addr) (sc : Nat) (qa : Option Addr) (qc : Nat) (bb : Bool), v = .tuple #[.agg (⟨thingNew k l to, sa, sc, qa, qc⟩ : MTh).cells.toArray, .bool bb] ∧ RowO 74 3 w.heap.size w' ⟨thingNew k l to, sa, sc, qa, qc⟩ ∧ w.grownBy w' none) := by
  have hz : ∀ w', RowO 74 3 w.heap.size w' ⟨Th.zero, none, 0, none, 0⟩ := fun w' => ⟨OwnN.nil, OwnN.nil⟩
  cases hk : (decide (k = 2) || decide (k = 3)) with
  | true =>
    cases hok : newOk k l to with
    | true =>
      have e : thingNew k l to = ⟨k, l, 0, 0, zeros4, [], to⟩ := by unfold thingNew newTh; rw [if_pos hok, if_pos (by unfold has4; exact hk)]
      rw [e]
      refine (Wv k to l hk hok w).mono fun v w' ⟨S, sc, Q, qc, hv, hS, hO, hQ, hO2, _, hg⟩ => ?_
      exact ⟨_, sc, _, qc, true, hv, ⟨OwnN.of hO hS, OwnN.of hO2 hQ⟩, hg⟩
    | false =>
      have e : thingNew k l to = Th.zero := by unfold thingNew; rw [if_neg (by rw [hok]; simp)]
      rw [e]
      exact (Wu k to l hk hok w).mono fun v w' ⟨hv, hg⟩ => ⟨none, 0, none, 0, false, hv, hz w', hg⟩
  | false =>
    cases hok : newOk k l to with
    | true =>
      have e : thingNew k l to = ⟨k, l, 0, 0, [], [], to⟩ := by unfold thingNew newTh; rw [if_pos hok, if_neg (by unfold has4; rw [hk]; simp)]
      rw [e]
      refine (Jp k to l hk hok w).mono fun v w' ⟨S, sc, Q, qc, hv, hS, hO, hQ, hO2, _, hg⟩ => ?_
      exact ⟨_, sc, _, qc, true, hv, ⟨OwnN.of hO hS, OwnN.of hO2 hQ⟩, hg⟩
    | false =>
      have e : thingNew k l to = Th.zero := by unfold thingNew; rw [if_neg (by rw [hok]; simp)]
      rw [e]
      exact (Wt k to l hk hok w).mono fun v w' ⟨hv, hg⟩ => ⟨none, 0, none, 0, false, hv, hz w', hg⟩
theorem Dm {lo B0 cap k bL : Nat} {ms ys : List MTh} {y : MTh} {f : Fr} {W : World} {Q : Exit → Fr → World → Prop} {c : Code} (hc : c = (match Try.f44.body with | some (.seq _ (.seq _ (.seq (.seq _ (.block _ (.loop (.seq _ (.seq (.block _ (.seq _ (.cond _ c _))) _))))) _))) => c | _ => .skip)) (hlo : lo ≤ W.heap.size) (hy : ys[k]? = some y) (hkm : k < ms.length) (hk : k < ys.length) (hO : Own W B0 35 8 cap ys.length (ys.flatMap MTh.cells)) (hR : RT lo W ys)
    (e5 : f 5 = .slice (some ⟨B0, 0, none⟩) ms.length cap) (e6 : f 6 = .int .i64 (k : Int)) (e3 : f 3 = .pointer (some ⟨bL, 0, none⟩)) (hQ : ∀ F w' z, z.t = thingNew y.t.kind y.t.lab y.t.to → W.grownBy w' (some B0) → F 5 = .slice (some ⟨B0, 0, none⟩) ms.length cap → F 6 = .int .i64 (k : Int) → F 3 = .pointer (some ⟨bL, 0, none⟩) → RT lo w' (ys.set k z) → Own w' B0 35 8 cap ys.length ((ys.set k z).flatMap MTh.cells) → Q .normal F w') : Wpf Try.prog 46 Q c f W := by
  subst hc
  refine J4 (m := 23) [[], [], [], [], [2, 3], [2, 3, 4], [2, 3, 4, 5], [], [], [7, 8], [7, 8, 9], [7, 8, 9, 10], [], [], [12, 13], [12, 13, 14], [12, 13, 14, 15], [2, 3, 4, 5, 6, 7, 8, 9, 10, 11, 12, 13, 14, 15, 16], [2, 3, 4, 5, 6, 7, 8, 9, 10, 11, 12, 13, 14, 15, 16, 17], [2, 3, 4, 5, 6, 7, 8, 9, 10, 11, 12, 13, 14, 15, 16, 17, 18], [2, 3, 4, 5, 6, 7, 8, 9, 10, 11, 12, 13, 14, 15, 16, 17, 18], [0, 1], [0, 1, 2, 3, 4, 5, 6, 7, 8, 9, 10, 11, 12, 13, 14, 15, 16, 17, 18, 19, 21]] (fun S F w' => ∃ (sa : Option Addr) (sc : Nat) (qa : Option Addr) (qc : Nat) (bb : Bool), W.grownBy w' (some B0) ∧ F 5 = .slice (some ⟨B0, 0, none⟩) ms.length cap ∧ F 6 = .int .i64 (k : Int) ∧ F 3 = .pointer (some ⟨bL, 0, none⟩) ∧ Vals S F [(0, 24, .slice (some ⟨B0, 0, none⟩) ms.length cap), (1, 25, .int .i64 (k : Int)), (2, 26, .slice (some ⟨B0, 0, none⟩) ms.length cap), (3, 27, .int .i64 (k : Int)), (4, 28, .pointer (some ⟨B0, k * 8, none⟩)), (5, 29, .pointer (some ⟨B0, k * 8, none⟩)), (6, 30, .int .i64 y.t.kind), (7, 31, .slice (some ⟨B0, 0, none⟩) ms.length cap), (8, 32, .int .i64 (k : Int)), (9, 33, .pointer (some ⟨B0, k * 8, none⟩)), (10, 34, .pointer (some ⟨B0, k * 8 + 1, none⟩)), (11, 35, .agg #[.int .i64 y.t.lab.s, .int .i64 y.t.lab.v]), (12, 36, .slice (some ⟨B0, 0, none⟩) ms.length cap), (13, 37, .int .i64 (k : Int)), (14, 38, .pointer (some ⟨B0, k * 8, none⟩)), (15, 39, .pointer (some ⟨B0, k * 8 + 7, none⟩)), (16, 40, .int .i64 y.t.to), (21, 44, .pointer (some ⟨B0, k * 8, none⟩))] ∧ (S 17 = true → F 41 = .tuple #[.agg (⟨thingNew y.t.kind y.t.lab y.t.to, sa, sc, qa, qc⟩ : MTh).cells.toArray, .bool bb] ∧ RowO 74 3 lo w' (⟨thingNew y.t.kind y.t.lab y.t.to, sa, sc, qa, qc⟩ : MTh)) ∧ (S 18 = true → F 23 = .tuple #[.agg (⟨thingNew y.t.kind y.t.lab y.t.to, sa, sc, qa, qc⟩ : MTh).cells.toArray, .bool bb]) ∧ (S 19 = true → F 42 = .agg (⟨thingNew y.t.kind y.t.lab y.t.to, sa, sc, qa, qc⟩ : MTh).cells.toArray) ∧ (S 22 = false → Own w' B0 35 8 cap ys.length (ys.flatMap MTh.cells)) ∧ RT lo w' ys ∧ (S 22 = true → Own w' B0 35 8 cap ys.length ((ys.set k (⟨thingNew y.t.kind y.t.lab y.t.to, sa, sc, qa, qc⟩ : MTh)).flatMap MTh.cells))) Qq (by kernel_rfl) ⟨none, 0, none, 0, false, X5 _, e5, e6, e3, U9 _, Yg, Yg, Yg, fun _ => hO.grown0 (X5 _), hR.low (X5 _), Yg⟩ ?_ ?_
  ·
    refine Xu (fun S F w1 hS hbef hcl hI' => ?_) ?_
    · obtain ⟨sa, sc, qa, qc, bb, hw, e5, e6, e3, hv, c17, c18, c19, c22, hRT, d22⟩ := hI'
      refine wpo_move (v := .slice (some ⟨B0, 0, none⟩) ms.length cap) e5 rfl ?_
      exact wpo_nil ⟨sa, sc, qa, qc, bb, hw, e5, e6, e3, hv.up 0 rfl rfl rfl, c17, c18, c19, c22, hRT, fun h => Xt 22 hS hcl rfl h⟩
    refine Xu (fun S F w1 hS hbef hcl hI' => ?_) ?_
    · obtain ⟨sa, sc, qa, qc, bb, hw, e5, e6, e3, hv, c17, c18, c19, c22, hRT, d22⟩ := hI'
      refine wpo_move (v := .int .i64 (k : Int)) e6 rfl ?_
      exact wpo_nil ⟨sa, sc, qa, qc, bb, hw, e5, e6, e3, hv.up 1 rfl rfl rfl, c17, c18, c19, c22, hRT, fun h => Xt 22 hS hcl rfl h⟩
    refine Xu (fun S F w1 hS hbef hcl hI' => ?_) ?_
    · obtain ⟨sa, sc, qa, qc, bb, hw, e5, e6, e3, hv, c17, c18, c19, c22, hRT, d22⟩ := hI'
      refine wpo_move (v := .slice (some ⟨B0, 0, none⟩) ms.length cap) e5 rfl ?_
      exact wpo_nil ⟨sa, sc, qa, qc, bb, hw, e5, e6, e3, hv.up 2 rfl rfl rfl, fun h => Xt 17 hS hcl rfl h, fun h => Xt 18 hS hcl rfl h, fun h => Xt 19 hS hcl rfl h, c22, hRT, fun h => Xt 22 hS hcl rfl h⟩
    refine Xu (fun S F w1 hS hbef hcl hI' => ?_) ?_
    · obtain ⟨sa, sc, qa, qc, bb, hw, e5, e6, e3, hv, c17, c18, c19, c22, hRT, d22⟩ := hI'
      refine wpo_move (v := .int .i64 (k : Int)) e6 rfl ?_
      exact wpo_nil ⟨sa, sc, qa, qc, bb, hw, e5, e6, e3, hv.up 3 rfl rfl rfl, fun h => Xt 17 hS hcl rfl h, fun h => Xt 18 hS hcl rfl h, fun h => Xt 19 hS hcl rfl h, c22, hRT, fun h => Xt 22 hS hcl rfl h⟩
    refine Xu (fun S F w1 hS hbef hcl hI' => ?_) ?_
    · obtain ⟨sa, sc, qa, qc, bb, hw, e5, e6, e3, hv, c17, c18, c19, c22, hRT, d22⟩ := hI'
      have t2 := hv.at 2 rfl (Xr 2 hbef rfl)
      have t3 := hv.at 3 rfl (Xr 3 hbef rfl)
      refine wpo_indexAddr (o' := k * 8) Qp t2 t3 (by omega) (by omega) (by simp) rfl ?_
      exact wpo_nil ⟨sa, sc, qa, qc, bb, hw, e5, e6, e3, hv.up 4 rfl rfl rfl, fun h => Xt 17 hS hcl rfl h, fun h => Xt 18 hS hcl rfl h, fun h => Xt 19 hS hcl rfl h, c22, hRT, fun h => Xt 22 hS hcl rfl h⟩
    refine Xu (fun S F w1 hS hbef hcl hI' => ?_) ?_
    · obtain ⟨sa, sc, qa, qc, bb, hw, e5, e6, e3, hv, c17, c18, c19, c22, hRT, d22⟩ := hI'
      have t4 := hv.at 4 rfl (Xr 4 hbef rfl)
      refine wpo_fieldAddr (o' := k * 8) X9 t4 rfl rfl ?_
      exact wpo_nil ⟨sa, sc, qa, qc, bb, hw, e5, e6, e3, hv.up 5 rfl rfl rfl, fun h => Xt 17 hS hcl rfl h, fun h => Xt 18 hS hcl rfl h, fun h => Xt 19 hS hcl rfl h, c22, hRT, fun h => Xt 22 hS hcl rfl h⟩
    refine Xu (fun S F w1 hS hbef hcl hI' => ?_) ?_
    · obtain ⟨sa, sc, qa, qc, bb, hw, e5, e6, e3, hv, c17, c18, c19, c22, hRT, d22⟩ := hI'
      have t5 := hv.at 5 rfl (Xr 5 hbef rfl)
      have h22 : S 22 = false := by
        cases h : S 22 with
        | false => rfl
        | true => exact Xt 22 hS hcl rfl h
      have hr := Gy (c22 h22) hy
      refine wpo_load1 (v := .int .i64 y.t.kind) X0 t5 (hr 0 _ rfl) rfl ?_
      exact wpo_nil ⟨sa, sc, qa, qc, bb, hw, e5, e6, e3, hv.up 6 rfl rfl rfl, fun h => Xt 17 hS hcl rfl h, fun h => Xt 18 hS hcl rfl h, fun h => Xt 19 hS hcl rfl h, c22, hRT, fun h => Xt 22 hS hcl rfl h⟩
    refine Xu (fun S F w1 hS hbef hcl hI' => ?_) ?_
    · obtain ⟨sa, sc, qa, qc, bb, hw, e5, e6, e3, hv, c17, c18, c19, c22, hRT, d22⟩ := hI'
      refine wpo_move (v := .slice (some ⟨B0, 0, none⟩) ms.length cap) e5 rfl ?_
      exact wpo_nil ⟨sa, sc, qa, qc, bb, hw, e5, e6, e3, hv.up 7 rfl rfl rfl, fun h => Xt 17 hS hcl rfl h, fun h => Xt 18 hS hcl rfl h, fun h => Xt 19 hS hcl rfl h, c22, hRT, fun h => Xt 22 hS hcl rfl h⟩
    refine Xu (fun S F w1 hS hbef hcl hI' => ?_) ?_
    · obtain ⟨sa, sc, qa, qc, bb, hw, e5, e6, e3, hv, c17, c18, c19, c22, hRT, d22⟩ := hI'
      refine wpo_move (v := .int .i64 (k : Int)) e6 rfl ?_
      exact wpo_nil ⟨sa, sc, qa, qc, bb, hw, e5, e6, e3, hv.up 8 rfl rfl rfl, fun h => Xt 17 hS hcl rfl h, fun h => Xt 18 hS hcl rfl h, fun h => Xt 19 hS hcl rfl h, c22, hRT, fun h => Xt 22 hS hcl rfl h⟩
    refine Xu (fun S F w1 hS hbef hcl hI' => ?_) ?_
    · obtain ⟨sa, sc, qa, qc, bb, hw, e5, e6, e3, hv, c17, c18, c19, c22, hRT, d22⟩ := hI'
      have t7 := hv.at 7 rfl (Xr 7 hbef rfl)
      have t8 := hv.at 8 rfl (Xr 8 hbef rfl)
      refine wpo_indexAddr (o' := k * 8) Qp t7 t8 (by omega) (by omega) (by simp) rfl ?_
      exact wpo_nil ⟨sa, sc, qa, qc, bb, hw, e5, e6, e3, hv.up 9 rfl rfl rfl, fun h => Xt 17 hS hcl rfl h, fun h => Xt 18 hS hcl rfl h, fun h => Xt 19 hS hcl rfl h, c22, hRT, fun h => Xt 22 hS hcl rfl h⟩
    refine Xu (fun S F w1 hS hbef hcl hI' => ?_) ?_
    · obtain ⟨sa, sc, qa, qc, bb, hw, e5, e6, e3, hv, c17, c18, c19, c22, hRT, d22⟩ := hI'
      have t9 := hv.at 9 rfl (Xr 9 hbef rfl)
      refine wpo_fieldAddr (o' := k * 8 + 1) J7 t9 rfl rfl ?_
      exact wpo_nil ⟨sa, sc, qa, qc, bb, hw, e5, e6, e3, hv.up 10 rfl rfl rfl, fun h => Xt 17 hS hcl rfl h, fun h => Xt 18 hS hcl rfl h, fun h => Xt 19 hS hcl rfl h, c22, hRT, fun h => Xt 22 hS hcl rfl h⟩
    refine Xu (fun S F w1 hS hbef hcl hI' => ?_) ?_
    · obtain ⟨sa, sc, qa, qc, bb, hw, e5, e6, e3, hv, c17, c18, c19, c22, hRT, d22⟩ := hI'
      have t10 := hv.at 10 rfl (Xr 10 hbef rfl)
      have h22 : S 22 = false := by
        cases h : S 22 with
        | false => rfl
        | true => exact Xt 22 hS hcl rfl h
      have hr := Gy (c22 h22) hy
      refine wpo_loadn (vs := [.int .i64 y.t.lab.s, .int .i64 y.t.lab.v]) Yr t10 rfl (Qa hr 1 2 rfl) rfl ?_
      exact wpo_nil ⟨sa, sc, qa, qc, bb, hw, e5, e6, e3, hv.up 11 rfl rfl rfl, fun h => Xt 17 hS hcl rfl h, fun h => Xt 18 hS hcl rfl h, fun h => Xt 19 hS hcl rfl h, c22, hRT, fun h => Xt 22 hS hcl rfl h⟩
    refine Xu (fun S F w1 hS hbef hcl hI' => ?_) ?_
    · obtain ⟨sa, sc, qa, qc, bb, hw, e5, e6, e3, hv, c17, c18, c19, c22, hRT, d22⟩ := hI'
      refine wpo_move (v := .slice (some ⟨B0, 0, none⟩) ms.length cap) e5 rfl ?_
      exact wpo_nil ⟨sa, sc, qa, qc, bb, hw, e5, e6, e3, hv.up 12 rfl rfl rfl, fun h => Xt 17 hS hcl rfl h, fun h => Xt 18 hS hcl rfl h, fun h => Xt 19 hS hcl rfl h, c22, hRT, fun h => Xt 22 hS hcl rfl h⟩
    refine Xu (fun S F w1 hS hbef hcl hI' => ?_) ?_
    · obtain ⟨sa, sc, qa, qc, bb, hw, e5, e6, e3, hv, c17, c18, c19, c22, hRT, d22⟩ := hI'
      refine wpo_move (v := .int .i64 (k : Int)) e6 rfl ?_
      exact wpo_nil ⟨sa, sc, qa, qc, bb, hw, e5, e6, e3, hv.up 13 rfl rfl rfl, fun h => Xt 17 hS hcl rfl h, fun h => Xt 18 hS hcl rfl h, fun h => Xt 19 hS hcl rfl h, c22, hRT, fun h => Xt 22 hS hcl rfl h⟩
    refine Xu (fun S F w1 hS hbef hcl hI' => ?_) ?_
    · obtain ⟨sa, sc, qa, qc, bb, hw, e5, e6, e3, hv, c17, c18, c19, c22, hRT, d22⟩ := hI'
      have t12 := hv.at 12 rfl (Xr 12 hbef rfl)
      have t13 := hv.at 13 rfl (Xr 13 hbef rfl)
      refine wpo_indexAddr (o' := k * 8) Qp t12 t13 (by omega) (by omega) (by simp) rfl ?_
      exact wpo_nil ⟨sa, sc, qa, qc, bb, hw, e5, e6, e3, hv.up 14 rfl rfl rfl, fun h => Xt 17 hS hcl rfl h, fun h => Xt 18 hS hcl rfl h, fun h => Xt 19 hS hcl rfl h, c22, hRT, fun h => Xt 22 hS hcl rfl h⟩
    refine Xu (fun S F w1 hS hbef hcl hI' => ?_) ?_
    · obtain ⟨sa, sc, qa, qc, bb, hw, e5, e6, e3, hv, c17, c18, c19, c22, hRT, d22⟩ := hI'
      have t14 := hv.at 14 rfl (Xr 14 hbef rfl)
      refine wpo_fieldAddr (o' := k * 8 + 7) Jj t14 rfl rfl ?_
      exact wpo_nil ⟨sa, sc, qa, qc, bb, hw, e5, e6, e3, hv.up 15 rfl rfl rfl, fun h => Xt 17 hS hcl rfl h, fun h => Xt 18 hS hcl rfl h, fun h => Xt 19 hS hcl rfl h, c22, hRT, fun h => Xt 22 hS hcl rfl h⟩
    refine Xu (fun S F w1 hS hbef hcl hI' => ?_) ?_
    · obtain ⟨sa, sc, qa, qc, bb, hw, e5, e6, e3, hv, c17, c18, c19, c22, hRT, d22⟩ := hI'
      have t15 := hv.at 15 rfl (Xr 15 hbef rfl)
      have h22 : S 22 = false := by
        cases h : S 22 with
        | false => rfl
        | true => exact Xt 22 hS hcl rfl h
      have hr := Gy (c22 h22) hy
      refine wpo_load1 (v := .int .i64 y.t.to) X0 t15 (hr 7 _ rfl) rfl ?_
      exact wpo_nil ⟨sa, sc, qa, qc, bb, hw, e5, e6, e3, hv.up 16 rfl rfl rfl, fun h => Xt 17 hS hcl rfl h, fun h => Xt 18 hS hcl rfl h, fun h => Xt 19 hS hcl rfl h, c22, hRT, fun h => Xt 22 hS hcl rfl h⟩
    refine Xu (fun S F w1 hS hbef hcl hI' => ?_) ?_
    · obtain ⟨sa, sc, qa, qc, bb, hw, e5, e6, e3, hv, c17, c18, c19, c22, hRT, d22⟩ := hI'
      have t6 := hv.at 6 rfl (Xr 6 hbef rfl)
      have t11 := hv.at 11 rfl (Xr 11 hbef rfl)
      have t16 := hv.at 16 rfl (Xr 16 hbef rfl)
      have h22 : S 22 = false := by
        cases h : S 22 with
        | false => rfl
        | true => exact Xt 22 hS hcl rfl h
      refine Xh (vs := [.int .i64 y.t.kind, .agg #[.int .i64 y.t.lab.s, .int .i64 y.t.lab.v], .int .i64 y.t.to]) F3 (Xb t6 (Xb t11 (Xb t16 Xg))) rfl (Pz _ _ _ _) ?_
      rintro _ w2 ⟨sa, sc, qa, qc, bb, rfl, hR, hg⟩
      exact wpo_nil ⟨sa, sc, qa, qc, bb, hw.gn0 hg, e5, e6, e3, hv.keep rfl, fun _ => ⟨rfl, RowO.mono hR (Nat.le_trans hlo hw.size)⟩, fun h => Xt 18 hS hcl rfl h, fun h => Xt 19 hS hcl rfl h, fun h => (c22 h).grown0 hg, hRT.low hg, fun h => Xt 22 hS hcl rfl h⟩
    refine Xu (fun S F w1 hS hbef hcl hI' => ?_) ?_
    · obtain ⟨sa, sc, qa, qc, bb, hw, e5, e6, e3, hv, c17, c18, c19, c22, hRT, d22⟩ := hI'
      obtain ⟨t17, hR⟩ := c17 (Xr 17 hbef rfl)
      refine wpo_move (v := .tuple #[.agg (⟨thingNew y.t.kind y.t.lab y.t.to, sa, sc, qa, qc⟩ : MTh).cells.toArray, .bool bb]) t17 rfl ?_
      exact wpo_nil ⟨sa, sc, qa, qc, bb, hw, e5, e6, e3, hv.keep rfl, c17, fun _ => rfl, fun h => Xt 19 hS hcl rfl h, c22, hRT, fun h => Xt 22 hS hcl rfl h⟩
    refine Xu (fun S F w1 hS hbef hcl hI' => ?_) ?_
    · obtain ⟨sa, sc, qa, qc, bb, hw, e5, e6, e3, hv, c17, c18, c19, c22, hRT, d22⟩ := hI'
      have t18 := c18 (Xr 18 hbef rfl)
      refine wpo_extract (v := .agg (⟨thingNew y.t.kind y.t.lab y.t.to, sa, sc, qa, qc⟩ : MTh).cells.toArray) t18 rfl rfl ?_
      exact wpo_nil ⟨sa, sc, qa, qc, bb, hw, e5, e6, e3, hv.keep rfl, c17, c18, fun _ => rfl, c22, hRT, fun h => Xt 22 hS hcl rfl h⟩
    refine Xu (fun S F w1 hS hbef hcl hI' => ?_) ?_
    · obtain ⟨sa, sc, qa, qc, bb, hw, e5, e6, e3, hv, c17, c18, c19, c22, hRT, d22⟩ := hI'
      have t18 := c18 (Xr 18 hbef rfl)
      refine wpo_extract (v := .bool bb) t18 rfl rfl ?_
      exact wpo_nil ⟨sa, sc, qa, qc, bb, hw, e5, e6, e3, hv.keep rfl, c17, c18, c19, c22, hRT, d22⟩
    refine Xu (fun S F w1 hS hbef hcl hI' => ?_) ?_
    · obtain ⟨sa, sc, qa, qc, bb, hw, e5, e6, e3, hv, c17, c18, c19, c22, hRT, d22⟩ := hI'
      have t0 := hv.at 0 rfl (Xr 0 hbef rfl)
      have t1 := hv.at 1 rfl (Xr 1 hbef rfl)
      refine wpo_indexAddr (o' := k * 8) Qp t0 t1 (by omega) (by omega) (by simp) rfl ?_
      exact wpo_nil ⟨sa, sc, qa, qc, bb, hw, e5, e6, e3, hv.up 17 rfl rfl rfl, c17, c18, c19, c22, hRT, fun h => Xt 22 hS hcl rfl h⟩
    refine Xu (fun S F w1 hS hbef hcl hI' => ?_) Kj
    · obtain ⟨sa, sc, qa, qc, bb, hw, e5, e6, e3, hv, c17, c18, c19, c22, hRT, d22⟩ := hI'
      have t21 := hv.at 17 rfl (Xr 21 hbef rfl)
      have t19 := c19 (Xr 19 hbef rfl)
      obtain ⟨_, hR⟩ := c17 (Xr 17 hbef rfl)
      have hO := c22 hS
      refine wpo_storenO (g := MTh.cells) (z' := (⟨thingNew y.t.kind y.t.lab y.t.to, sa, sc, qa, qc⟩ : MTh)) Xx t21 t19 (Wm _) Ym hO hk rfl ?_
      intro w2 hO2 hg
      rw [List.length_set] at hO2
      exact wpo_nil ⟨sa, sc, qa, qc, bb, Xf hw hg, e5, e6, e3, hv.keep0 rfl, fun _ => ⟨(c17 (Xr 17 hbef rfl)).1, hR.typ hg hO (by decide) (by decide)⟩, c18, c19, (fun h => by cases h), hRT.typ hg hO, fun _ => hO2⟩
  · intro S F w2 hall hI'
    obtain ⟨sa, sc, qa, qc, bb, hw, e5, e6, e3, hv, c17, c18, c19, c22, hRT, d22⟩ := hI'
    obtain ⟨_, hZ⟩ := c17 (hall 17 (by omega))
    exact wpo_nil (hQ _ _ _ rfl hw e5 e6 e3 (RT.set hRT hZ) (d22 (hall 22 (by omega))))
theorem Lr {ts : List Th} {ys : List MTh} {y z : MTh} {l : Lab} {k : Nat} (h : tabT ys = (ts.take k).map (viewTh · l) ++ ts.drop k) (hk : k < ts.length) (hy : ys[k]? = some y) (hz : z.t = viewTh y.t l) : tabT (ys.set k z) = (ts.take (k + 1)).map (viewTh · l) ++ ts.drop (k + 1) := by
  have hl : ((ts.take k).map (viewTh · l)).length = k := by rw [List.length_map, List.length_take]; omega
  have ht : ts[k]? = some y.t := by
    have h1 : (tabT ys)[k]? = some y.t := by unfold tabT; rw [List.getElem?_map, hy]; rfl
    rw [h, List.getElem?_append_right (by omega), hl, Nat.sub_self, List.getElem?_drop, Nat.add_zero] at h1
    exact h1
  have e1 : tabT (ys.set k z) = (tabT ys).set k z.t := by unfold tabT; rw [List.map_set]
  rw [e1, h, List.set_append_right _ _ (by omega), hl, Nat.sub_self, Kw ht, List.set_cons_zero, List.take_add_one, ht, Option.toList_some, List.map_append, List.append_assoc]
  rw [hz]; rfl
theorem Dl (l : Lab) (w : World) (ms : List MTh) (a : Option Addr) (c : Nat) (hM : TabAt w a ms) (hlen : TabLen ms) (hn : ms.length ≤ 1048576) (hT : tableOk (tabT ms) = true) (hl : labelOk l = true) : CallsR Try.prog 44 #[.slice a ms.length c, .agg #[.int .i64 l.s, .int .i64 l.v]] w (fun v B => ∃ (us : List MTh) (a' : Option Addr) (c' : Nat), v = .slice a' us.length c' ∧ tabT us = (tabT ms).map (viewTh · l) ∧ TabAt B a' us ∧ (a' = none → c' = 0) ∧ w.grownBy B none) := by
  refine Xp (n := 46) Try.func44 rfl Try.ntmps44 rfl ?_
  refine Xa ?_
  refine wpo_box (v := .agg #[.int .i64 l.s, .int .i64 l.v]) (cs := #[.int .i64 l.s, .int .i64 l.v]) rfl rfl rfl ?_
  intro bL w1 hN1
  refine wpo_assign (v := .slice none 0 0) rfl rfl (wpo_nil ?_)
  refine Xa ?_
  refine wpo_move (v := .slice a ms.length c) rfl rfl ?_
  refine Xh (R := fun v w' => ∃ (B cap : Nat) (ys : List MTh), v = .slice (some ⟨B, 0, none⟩) ms.length cap ∧ ys.length = ms.length ∧ tabT ys = tabT ms ∧ w1.heap.size ≤ B ∧ Own w' B 35 8 cap ys.length (ys.flatMap MTh.cells) ∧ RowsO 74 3 w1.heap.size w' ys ∧ w1.grownBy w' none) (vs := [.slice a ms.length c]) Fy (Xb rfl Xg) rfl ((Bv _ ms a c (hM.low hN1.grw) hlen hn).mono fun v w' ⟨B, cap, ys, h1, h2, h3⟩ => ⟨B, cap, ys, by rw [h1, Ud h2], Ud h2, h2, h3⟩) ?_
  rintro _ w2 ⟨B0, cap, ys0, rfl, hl0, hy0, hge, hO0, hR0, hg2⟩
  refine wpo_assign (v := .slice (some ⟨B0, 0, none⟩) ms.length cap) rfl rfl (wpo_nil ?_)
  have hw1 := hN1.grw.size
  have hbL := hN1.blk.lt
  have hgw2 := Xf hN1.grw hg2
  have toN : ∀ {W W' : World}, w.grownBy W none → W.grownBy W' (some B0) → w.grownBy W' none := fun h1 h2 =>
    ⟨h2.os.trans h1.os, h2.tape.trans h1.tape, h2.output.trans h1.output, Nat.le_trans h1.size h2.size, fun b hb _ => (h2.block b (Nat.lt_of_lt_of_le hb h1.size) (by simp; omega)).trans (h1.block b hb (by simp))⟩
  refine Xi (Xa (wpo_assign (v := .int .i64 ((0 : Nat) : Int)) rfl rfl (wpo_nil ?_)))
  refine Xv ?_
  refine Ye (fun m F B => ∃ (k : Nat) (ys : List MTh), k + m = ms.length ∧ ys.length = ms.length ∧ tabT ys = ((tabT ms).take k).map (viewTh · l) ++ (tabT ms).drop k ∧ F 6 = .int .i64 (k : Int) ∧ F 5 = .slice (some ⟨B0, 0, none⟩) ms.length cap ∧ F 3 = .pointer (some ⟨bL, 0, none⟩) ∧ Own B B0 35 8 cap ys.length (ys.flatMap MTh.cells) ∧ RT w.heap.size B ys ∧ w.grownBy B none ∧ Blk B bL 25 #[.int .i64 l.s, .int .i64 l.v]) ms.length
    ⟨0, ys0, by omega, hl0, by simpa using hy0, rfl, rfl, rfl, hO0, fun m hm => RowO.mono (hR0.row m hm) hw1, hgw2, hN1.blk.grown0 hg2⟩ fun m F B ⟨k, ys, hkm, hyl, hyt, e6, e5, e3, hO, hR, hgw, hBL⟩ => ?_
  refine Xi (Xa ?_)
  refine wpo_move (v := .int .i64 (k : Int)) e6 rfl ?_
  refine wpo_move (v := .slice (some ⟨B0, 0, none⟩) ms.length cap) e5 rfl ?_
  refine wpo_len Nq rfl rfl ?_
  by_cases hk : k < ms.length
  · refine wpo_lss (q := true) rfl rfl (by simp; omega) rfl (wpo_nil (X8 rfl rfl (Xk ?_)))
    obtain ⟨y, hy⟩ := Qc (show k < ys.length by omega)
    have hkt : k < (tabT ms).length := by rw [Yd]; exact hk
    have hyT : (tabT ms)[k]? = some y.t := by
      have h1 : (tabT ys)[k]? = some y.t := by unfold tabT; rw [List.getElem?_map, hy]; rfl
      have hl1 : (((tabT ms).take k).map (viewTh · l)).length = k := by rw [List.length_map, List.length_take]; omega
      rw [hyt, List.getElem?_append_right (by omega), hl1, Nat.sub_self, List.getElem?_drop, Nat.add_zero] at h1
      exact h1
    have hym : y.t = (mAt ms k).t := by
      have h2 : (tabT ms)[k]? = some (mAt ms k).t := by unfold tabT; rw [List.getElem?_map, Xz hk]; rfl
      rw [hyT] at h2
      exact Option.some.inj h2
    have hla : labelOk y.t.lab = true := by rw [hym]; exact (Jb (Kt hT hk)).2.1
    have hlf : labelFlow y.t.lab l = flow y.t.lab l := by unfold labelFlow; rw [hla, hl]; rfl
    have hr := Gy hO hy
    have hBLl := hBL.lt
    have neL : bL ≠ B0 := by omega
    refine Xi (Xv (Xi ?_))
    refine Qh (m := 6) (vals := [(15, .slice (some ⟨B0, 0, none⟩) ms.length cap), (16, .int .i64 (k : Int)), (17, .pointer (some ⟨B0, k * 8, none⟩)), (18, .pointer (some ⟨B0, k * 8 + 1, none⟩)), (19, .agg #[.int .i64 y.t.lab.s, .int .i64 y.t.lab.v]), (20, .agg #[.int .i64 l.s, .int .i64 l.v])]) (fun w' => B.grownBy w' none) Qq (by kernel_rfl) (X5 _) ?_ ?_
    · refine Xd rfl (fun w3 hi => wpo_move (v := .slice (some ⟨B0, 0, none⟩) ms.length cap) e5 rfl (wpo_nil ⟨rfl, hi⟩)) ?_
      refine Xd rfl (fun w3 hi => wpo_move (v := .int .i64 (k : Int)) e6 rfl (wpo_nil ⟨rfl, hi⟩)) ?_
      refine Xd rfl (fun w3 hi => wpo_indexAddr (o' := k * 8) Qp rfl rfl (by omega) (by omega) (by simp) rfl (wpo_nil ⟨rfl, hi⟩)) ?_
      refine Xd rfl (fun w3 hi => wpo_fieldAddr (o' := k * 8 + 1) J7 rfl rfl rfl (wpo_nil ⟨rfl, hi⟩)) ?_
      refine Xd rfl (fun w3 hi => wpo_loadn (vs := [.int .i64 y.t.lab.s, .int .i64 y.t.lab.v]) Yr rfl rfl (Qa (Yp hr hi) 1 2 rfl) rfl (wpo_nil ⟨rfl, hi⟩)) ?_
      refine Xd rfl (fun w3 hi => wpo_loadn (vs := [.int .i64 l.s, .int .i64 l.v]) Yr e3 rfl ((hBL.grown0 hi).rangeL 0 2 rfl) rfl (wpo_nil ⟨rfl, hi⟩)) Q0
    · intro w3 hi
      refine Xh (vs := [.agg #[.int .i64 y.t.lab.s, .int .i64 y.t.lab.v], .agg #[.int .i64 l.s, .int .i64 l.v]]) F2 (Xb rfl (Xb rfl Xg)) rfl (Bs y.t.lab l hla hl _) ?_
      rintro _ w4 ⟨rfl, hg4⟩
      have hi4 := Xf hi hg4
      refine wpo_not (b' := !flow y.t.lab l) rfl rfl rfl (wpo_nil ?_)
      have next : ∀ (QQ : Exit → Fr → World → Prop) (F : Fr) (w' : World) (zs : List MTh), zs.length = ms.length → tabT zs = ((tabT ms).take (k + 1)).map (viewTh · l) ++ (tabT ms).drop (k + 1) → F 5 = .slice (some ⟨B0, 0, none⟩) ms.length cap → F 6 = .int .i64 (k : Int) → F 3 = .pointer (some ⟨bL, 0, none⟩) → Own w' B0 35 8 cap zs.length (zs.flatMap MTh.cells) → RT w.heap.size w' zs → w.grownBy w' none → Blk w' bL 25 #[.int .i64 l.s, .int .i64 l.v] →
          Wpf Try.prog 46 (thn (fun f' A' => ∃ m' < m, ∃ (k : Nat) (ys : List MTh), k + m' = ms.length ∧ ys.length = ms.length ∧ tabT ys = ((tabT ms).take k).map (viewTh · l) ++ (tabT ms).drop k ∧ f' 6 = .int .i64 (k : Int) ∧ f' 5 = .slice (some ⟨B0, 0, none⟩) ms.length cap ∧ f' 3 = .pointer (some ⟨bL, 0, none⟩) ∧ Own A' B0 35 8 cap ys.length (ys.flatMap MTh.cells) ∧ RT w.heap.size A' ys ∧ w.grownBy A' none ∧ Blk A' bL 25 #[.int .i64 l.s, .int .i64 l.v]) QQ) (match Try.f44.body with | some (.seq _ (.seq _ (.seq (.seq _ (.block _ (.loop (.seq _ (.seq _ c))))) _))) => c | _ => .skip) F w' := by
        intro QQ F w' zs hzl hzt g5 g6 g3 hO' hR' hg' hb'
        refine Xl ?_
        refine wpo_move (v := .int .i64 (k : Int)) g6 rfl ?_
        refine wpo_add (c := ((k + 1 : Nat) : Int)) rfl rfl (by omega) (by omega) (by omega) rfl ?_
        refine wpo_assign (v := .int .i64 ((k + 1 : Nat) : Int)) rfl rfl (wpo_nil ?_)
        exact ⟨m - 1, by omega, k + 1, zs, by omega, hzl, hzt, rfl, g5, g3, hO', hR', hg', hb'⟩
      cases hf : flow y.t.lab l with
      | true =>
        refine Ya rfl rfl (Xk ?_)
        have e := Lr (z := y) hyt hkt hy (Rc (hlf.trans hf)).symm
        have es : ys.set k y = ys := by
          obtain ⟨h1, h2⟩ := List.getElem?_eq_some_iff.1 hy
          rw [← h2, List.set_getElem_self]
        rw [es] at e
        exact next _ _ _ ys hyl e e5 e6 e3 (hO.grown0 hi4) (hR.low hi4) (Xf hgw hi4) (hBL.grown0 hi4)
      | false =>
        refine X8 rfl rfl ?_
        refine Dm (ms := ms) (cap := cap) (bL := bL) rfl (Nat.le_trans hgw.size hi4.size) hy hk (by omega) (hO.grown0 hi4) (hR.low hi4) e5 e6 e3 fun F' w' z hz hg g5 g6 g3 hR' hO' => ?_
        have e := Lr (z := z) hyt hkt hy (by rw [hz]; unfold viewTh; rw [if_neg (by rw [hlf, hf]; simp)])
        exact next _ F' w' _ (by rw [List.length_set]; exact hyl) e g5 g6 g3 (by rw [List.length_set]; exact hO') hR' (toN (Xf hgw hi4) hg) ((hBL.grown0 hi4).grown hg (by simp; omega))
  · refine wpo_lss (q := false) rfl rfl (by simp; omega) rfl (wpo_nil (Ya rfl rfl (Yj ?_)))
    have hkn : k = ms.length := by omega
    simp only [thn, blk, ↓reduceIte]
    refine Xa ?_
    refine wpo_move (v := .slice (some ⟨B0, 0, none⟩) ms.length cap) e5 rfl ?_
    refine wpo_assign (v := .slice (some ⟨B0, 0, none⟩) ms.length cap) rfl rfl (wpo_nil (Xj ?_))
    refine ⟨.slice (some ⟨B0, 0, none⟩) ms.length cap, res1 rfl rfl, ys, some ⟨B0, 0, none⟩, cap, by rw [hyl], ?_, ⟨Own.sl Ym hO, fun m hm => (hR m hm).th⟩, (fun h => by cases h), hgw⟩
    rw [hyt, hkn, List.take_of_length_le (by rw [Yd]; omega), List.drop_eq_nil_of_le (by rw [Yd]; omega), List.append_nil]
theorem Ll (l : Lab) (w : World) (ms : List MTh) (a : Option Addr) (c : Nat) (hM : TabAt w a ms) (hlen : TabLen ms) (hn : ms.length ≤ 1048576) : CallsR Try.prog 14 #[.slice a ms.length c, .agg #[.int .i64 l.s, .int .i64 l.v]] w (ViewR ms l w) := by
  refine Xp (n := 17) Try.func14 rfl Try.ntmps14 rfl ?_
  refine Xa ?_
  refine wpo_box (v := .agg #[.int .i64 l.s, .int .i64 l.v]) (cs := #[.int .i64 l.s, .int .i64 l.v]) rfl rfl rfl ?_
  intro bL w1 hN1
  refine wpo_assign (v := .slice none 0 0) rfl rfl (wpo_nil ?_)
  refine Xi (Xa ?_)
  refine wpo_move (v := .slice a ms.length c) rfl rfl ?_
  refine Xh (vs := [.slice a ms.length c]) Fq (Xb rfl Xg) rfl (U6 _ ms a c (hM.low hN1.grw) hlen hn) ?_
  rintro _ w2 ⟨rfl, hg2⟩
  have hgw2 := Xf hN1.grw hg2
  have hL2 := hN1.blk.grown0 hg2
  refine wpo_not (b' := !tableOk (tabT ms)) rfl rfl rfl ?_
  refine wpo_move (v := .bool (!tableOk (tabT ms))) rfl rfl ?_
  have none_ : ∀ (F : Fr) (W B : World) (b : Nat), (tableOk (tabT ms) && labelOk l) = false → w.grownBy W none → NewB W B b 35 (([] : List MTh).flatMap MTh.cells).toArray → F 4 = .slice (some ⟨b, 0, none⟩) 0 0 → ∃ v, resV Try.prog Try.f14 F B v ∧ ViewR ms l w v B := fun F W B b h hg hN h4 =>
    ⟨_, res1 rfl h4, [], some ⟨b, 0, none⟩, 0, rfl, by unfold viewTab; rw [h]; rfl, ⟨fun k x hk => by simp at hk, fun m hm => by simp at hm⟩, (fun _ => rfl), Xf hg hN.grw⟩
  cases h1 : tableOk (tabT ms) with
  | false =>
    iterate 3 refine Xe rfl rfl rfl rfl rfl ?_
    refine wpo_pickt (v := .bool true) rfl rfl rfl rfl (wpo_nil (X8 rfl rfl ?_))
    refine Xa ?_
    refine wpo_buildSlice (ps := []) (e := 35) (cs := (([] : List MTh).flatMap MTh.cells).toArray) Xw (fun _ => by kernel_rfl) rfl ?_
    intro b w3 hN
    refine wpo_assign (v := .slice (some ⟨b, 0, none⟩) 0 0) rfl rfl (wpo_nil (Xj ?_))
    exact none_ _ _ _ b (by rw [h1]; rfl) hgw2 hN rfl
  | true =>
    refine Xc rfl rfl rfl rfl ?_
    refine wpo_loadn (vs := [.int .i64 l.s, .int .i64 l.v]) Yr rfl rfl (hL2.rangeL 0 2 rfl) rfl ?_
    refine Xc rfl rfl rfl rfl ?_
    refine Xh (vs := [.agg #[.int .i64 l.s, .int .i64 l.v]]) Fs (Xb rfl Xg) rfl (U5 l _) ?_
    rintro _ w4 ⟨rfl, hg4⟩
    have hL4 := hL2.grown0 hg4
    have hgw4 := Xf hgw2 hg4
    refine Xc rfl rfl rfl rfl ?_
    refine wpo_not (b' := !labelOk l) rfl rfl rfl ?_
    refine wpo_pickf (v := .bool (!labelOk l)) rfl rfl rfl rfl (wpo_nil ?_)
    cases h2 : labelOk l with
    | false =>
      refine X8 rfl rfl ?_
      refine Xa ?_
      refine wpo_buildSlice (ps := []) (e := 35) (cs := (([] : List MTh).flatMap MTh.cells).toArray) Xw (fun _ => by kernel_rfl) rfl ?_
      intro b w3 hN
      refine wpo_assign (v := .slice (some ⟨b, 0, none⟩) 0 0) rfl rfl (wpo_nil (Xj ?_))
      exact none_ _ _ _ b (by rw [h1, h2]; rfl) hgw4 hN rfl
    | true =>
      refine Ya rfl rfl (Xk ?_)
      refine Xa ?_
      refine wpo_move (v := .slice a ms.length c) rfl rfl ?_
      refine wpo_loadn (vs := [.int .i64 l.s, .int .i64 l.v]) Yr rfl rfl (hL4.rangeL 0 2 rfl) rfl ?_
      refine Xh (vs := [.slice a ms.length c, .agg #[.int .i64 l.s, .int .i64 l.v]]) Fx (Xb rfl (Xb rfl Xg)) rfl (Dl l _ ms a c (hM.low hgw4) hlen hn h1 h2) ?_
      rintro _ w5 ⟨us, a', c', rfl, h3, h4, h5, h6⟩
      refine wpo_assign (v := .slice a' us.length c') rfl rfl (wpo_nil (Xj ?_))
      exact ⟨_, res1 rfl rfl, us, a', c', rfl, by rw [h3]; unfold viewTab; rw [h1, h2]; rfl, h4, h5, Xf hgw4 h6⟩
end
end Go.Dw.J
end
section
namespace Go.Dw.J
open Go.RowKit Go.Dw Go.Proofs
set_option linter.unusedSectionVars false
set_option linter.unusedSimpArgs false
set_option linter.unusedVariables false
theorem Ke {ys : List MTh} {i : Nat} {x : MTh} (h : TabLen ys) (hi : i < ys.length) (h1 : x.t.slots = (mAt ys i).t.slots) (h2 : x.t.queue = (mAt ys i).t.queue ∨ x.t.queue.length ≤ 1048576) : TabLen (ys.set i x) := fun m hm => by
  have h0 := h.at (Xz hi)
  rcases List.mem_or_eq_of_mem_set hm with h3 | rfl
  · exact h m h3
  · rw [h1]
    refine ⟨h0.1, ?_⟩
    rcases h2 with h2 | h2
    · rw [h2]; exact h0.2
    · exact h2
def viewSame (a b : List Th) (l : Lab) : Bool := tableOk a && tableOk b && labelOk l && decide (a.length = b.length) && decide (viewTab a l = viewTab b l)
theorem Cn {m p : Th} : (((((((decide (m.kind = p.kind)) && (decide (m.lab = p.lab))) && (decide (m.ve = p.ve))) && (decide (m.num = p.num))) && (decide (m.to = p.to))) && (decide (m.slots = p.slots))) && (decide (m.queue = p.queue))) = decide (m = p) := by
  rw [Bool.eq_iff_iff]
  simp only [Bool.and_eq_true, decide_eq_true_eq]
  exact ⟨fun ⟨⟨⟨⟨⟨⟨h1, h2⟩, h3⟩, h4⟩, h5⟩, h6⟩, h7⟩ => Ct h1 h2 h3 h4 h6 h7 h5, fun h => by subst h; exact ⟨⟨⟨⟨⟨⟨rfl, rfl⟩, rfl⟩, rfl⟩, rfl⟩, rfl⟩, rfl⟩⟩
theorem Mn {us ps : List MTh} {i : Nat} (ha : (tabT us).take i = (tabT ps).take i) (h1 : i < us.length) (h2 : i < ps.length) (h : (mAt us i).t = (mAt ps i).t) : (tabT us).take (i + 1) = (tabT ps).take (i + 1) :=
  Jr ha (K7 h1) (K7 h2) h
theorem Rb {ms ps : List MTh} {l : Lab} (h : ((((!tableOk (tabT ms)) || (!tableOk (tabT ps))) || (!labelOk l)) || (!(decide ((ms.length : Int) = (ps.length : Int))))) = true) : false = viewSame (tabT ms) (tabT ps) l := by
  unfold viewSame
  rw [Yd, Yd]
  have e : decide (ms.length = ps.length) = decide ((ms.length : Int) = (ps.length : Int)) := by rw [decide_eq_decide]; omega
  rw [e]
  revert h
  cases tableOk (tabT ms) <;> cases tableOk (tabT ps) <;> cases labelOk l <;> cases decide ((ms.length : Int) = (ps.length : Int)) <;> simp
theorem Nn {ms ps us xs : List MTh} {l : Lab} {i : Nat} (he : tabT us = viewTab (tabT ms) l) (he2 : tabT xs = viewTab (tabT ps) l) (h1 : tableOk (tabT ms) = true) (h2 : tableOk (tabT ps) = true) (h3 : labelOk l = true) (hl : ms.length = ps.length) (ha : (tabT us).take i = (tabT xs).take i) (hi : us.length ≤ i ∧ xs.length ≤ i) : true = viewSame (tabT ms) (tabT ps) l := by
  unfold viewSame
  rw [h1, h2, h3, Yd, Yd, ← he, ← he2, decide_eq_true hl]
  rw [List.take_of_length_le (by rw [Yd]; exact hi.1), List.take_of_length_le (by rw [Yd]; exact hi.2)] at ha
  rw [decide_eq_true ha]; rfl
theorem Ra {ms ps us xs : List MTh} {l : Lab} {i : Nat} (he : tabT us = viewTab (tabT ms) l) (he2 : tabT xs = viewTab (tabT ps) l) (h : ¬ (mAt us i).t = (mAt xs i).t) : false = viewSame (tabT ms) (tabT ps) l := by
  unfold viewSame
  rw [← he, ← he2, decide_eq_false (p := tabT us = tabT xs) (fun e => h (by rw [Pk, Pk, e])), Bool.and_false]
section
variable {ms us : List MTh} {l : Lab}
theorem K8 {ts : List Th} (h1 : tableOk ts = true) (h2 : labelOk l = true) : viewTab ts l = ts.map (viewTh · l) := by unfold viewTab; rw [h1, h2]; rfl
theorem Uy (he : tabT us = viewTab (tabT ms) l) (h1 : tableOk (tabT ms) = true) (h2 : labelOk l = true) : us.length = ms.length := by
  have := congrArg List.length he
  rwa [K8 h1 h2, List.length_map, Yd, Yd] at this
theorem Kg (he : tabT us = viewTab (tabT ms) l) : us.length ≤ ms.length := by
  have := congrArg List.length he
  rw [Yd] at this
  unfold viewTab at this
  split at this
  · rw [List.length_map, Yd] at this; omega
  · have h0 : us.length = 0 := this
    omega
theorem Sr {t : Th} (h : t.slots.length ≤ 1048576 ∧ t.queue.length ≤ 1048576) : (viewTh t l).slots.length ≤ 1048576 ∧ (viewTh t l).queue.length ≤ 1048576 := by
  unfold viewTh
  split
  · exact h
  · unfold thingNew
    split
    · unfold newTh
      refine ⟨?_, by simp⟩
      show (if has4 t.kind = true then zeros4 else []).length ≤ _
      split <;> decide
    · decide
theorem Js (he : tabT us = viewTab (tabT ms) l) (hl : TabLen ms) : TabLen us := fun m hm => by
  have h1 : m.t ∈ tabT us := List.mem_map.2 ⟨m, hm, rfl⟩
  rw [he] at h1
  unfold viewTab at h1
  split at h1
  · obtain ⟨t, ht, e⟩ := List.mem_map.1 h1
    obtain ⟨q, hq, rfl⟩ := List.mem_map.1 ht
    rw [← e]
    exact Sr (hl q hq)
  · cases h1
theorem Lz {c : Prop} [Decidable c] {a b : Bool} (h1 : a = true) (h2 : b = true) : (if c then a else b) = true := by split <;> assumption
theorem B6 {t : Th} (h : thingOk t = true) : newOk t.kind t.lab t.to = true := by
  obtain ⟨h1, h2, _, _, _, _, h7⟩ := Jb h
  unfold newOk thingOk newTh
  simp only [Bool.and_eq_true]
  refine ⟨⟨⟨⟨⟨⟨h1, h2⟩, ?_⟩, ?_⟩, ?_⟩, ?_⟩, h7⟩
  · exact Lz rfl rfl
  · exact Lz rfl (Lz rfl rfl)
  · unfold slotsOk has4
    by_cases hk : t.kind = 2 ∨ t.kind = 3
    · have h4 : (decide (t.kind = 2) || decide (t.kind = 3)) = true := by simpa using hk
      simp only [if_pos hk, h4, if_true]; decide
    · have h4 : (decide (t.kind = 2) || decide (t.kind = 3)) = false := by simpa using hk
      simp only [if_neg hk, h4]; rfl
  · exact Lz rfl rfl
end
theorem Gq {t : Th} {l : Lab} (h : thingOk t = true) : (viewTh t l).kind = t.kind ∧ (viewTh t l).lab = t.lab ∧ (viewTh t l).to = t.to := by
  unfold viewTh
  split
  · exact ⟨rfl, rfl, rfl⟩
  · unfold thingNew
    rw [if_pos (B6 h)]
    exact ⟨rfl, rfl, rfl⟩
theorem RowO.typB {TR TI lo B : Nat} {w w' : World} {m : MTh} {U : TypeId} {cs : Array Value} (h : RowO TR TI lo w m) (hg : w.grownBy w' (some B)) (k : Blk w B U cs) (h1 : TR ≠ U) (h2 : TI ≠ U) : RowO TR TI lo w' m := ⟨h.s.typB hg k h1, h.q.typB hg k h2⟩
section
variable [Comp]
end
end Go.Dw.J
end
section
namespace Go.Dw.J
open Go.RowKit Go.Dw Go.Proofs
set_option linter.unusedSectionVars false
set_option maxRecDepth 100000
set_option maxHeartbeats 4000000
set_option linter.unusedSimpArgs false
set_option linter.unusedVariables false
theorem S0 : goFn Try.prog 12 = true := by kernel_rfl
theorem Iz : goFn Try.prog 58 = true := by kernel_rfl
theorem I4 : goFn Try.prog 98 = true := by kernel_rfl
theorem I5 : goFn Try.prog 99 = true := by kernel_rfl
theorem Ba [Comp] (w : World) (xs ys : List Rt) (a b : Option Addr) (c e : Nat) (hs : SlAt w a 5 (xs.map Rt.cells)) (ht : SlAt w b 5 (ys.map Rt.cells)) (hn : xs.length ≤ 1048576) (hm : ys.length ≤ 1048576) : CallsR Try.prog 98 #[.slice a xs.length c, .slice b ys.length e] w (fun v w' => v = .bool (decide (xs = ys)) ∧ w.grownBy w' none) := by
 refine Xp (n := 26) Try.func98 rfl Try.ntmps98 rfl ?_
 have hb0 := World.grownBy.refl w none
 refine Xa ?_
 refine wpo_assign (v := .bool false) rfl rfl ?_
 refine wpo_nil ?_
 refine Xi ?_
 refine Xa ?_
 refine wpo_move (v := .slice a xs.length c) rfl rfl ?_
 refine wpo_len (by kernel_rfl) rfl rfl ?_
 refine wpo_move (v := .slice b ys.length e) rfl rfl ?_
 refine wpo_len (by kernel_rfl) rfl rfl ?_
 refine wpo_neq (q := !(decide ((xs.length : Int) = (ys.length : Int)))) rfl rfl rfl rfl ?_
 refine wpo_nil ?_
 refine Xq rfl (fun h101 => ?_) (fun h101 => ?_)
 ·
  have h102 := Q3 h101
  have h103 := of_decide_eq_false h102
  refine Xa ?_
  refine wpo_assign (v := .bool false) rfl rfl ?_
  refine wpo_nil ?_
  refine Xj ?_
  refine X7 ?_
  refine ⟨.bool false, res1 rfl rfl, ?_, hb0⟩
  exact congrArg Value.bool (decide_eq_false (fun h => by have := congrArg List.length h; omega)).symm
 ·
  have h104 := Y9 h101
  have h105 := of_decide_eq_true h104
  refine Xk ?_
  refine Xn ?_
  refine Xi ?_
  refine Xa ?_
  refine wpo_move (v := .slice a xs.length c) rfl rfl ?_
  refine wpo_len (by kernel_rfl) rfl rfl ?_
  refine wpo_move (v := .int .i64 0) rfl rfl ?_
  refine wpo_nil ?_
  refine Xv ?_
  refine Ye (fun mm f' w' => ∃ (k : Nat), mm = xs.length - k ∧ k ≤ xs.length ∧ xs.take k = ys.take k ∧ f' 13 = .int .i64 (k : Int) ∧ f' 0 = .slice a xs.length c ∧ f' 1 = .slice b ys.length e ∧ f' 12 = .int .i64 (xs.length : Int) ∧ w.grownBy w' none) (xs.length - 0) ⟨0, rfl, (Nat.zero_le _), rfl, rfl, rfl, rfl, rfl, hb0⟩ ?_
  rintro mm f106 w107 ⟨k, hm109, hk, ha, e110, e111, e112, e113, hb108⟩
  refine Xa ?_
  refine wpo_lss (q := decide ((k : Int) < (xs.length : Int))) e110 e113 rfl rfl ?_
  refine wpo_nil ?_
  refine Xi ?_
  refine Xq rfl (fun h114 => ?_) (fun h114 => ?_)
  ·
   have h115 := of_decide_eq_true h114
   refine Xk ?_
   refine Xn ?_
   refine Xi ?_
   refine Xv ?_
   refine Xa ?_
   refine wpo_move (v := .int .i64 (k : Int)) e110 rfl ?_
   refine wpo_assign (v := .int .i64 (k : Int)) rfl rfl ?_
   refine wpo_nil ?_
   refine Xi ?_
   obtain ⟨x148, hx149⟩ := Qc (l := xs) (i := k) (by omega)
   obtain ⟨b150, q151, o152, ha153, ho154, hr155⟩ := SlAt.at hs (Yh hx149)
   obtain ⟨x156, hx157⟩ := Qc (l := ys) (i := k) (by omega)
   obtain ⟨b158, q159, o160, ha161, ho162, hr163⟩ := SlAt.at ht (Yh hx157)
   refine Qh (m := 8) (vals := [(16, .slice a xs.length c), (17, .int .i64 (k : Int)), (18, .pointer (some ⟨b150, o152, none⟩)), (19, .agg #[.int .i64 x148.th, .int .i64 x148.ve, .bool x148.rd, .bool x148.wr, .bool x148.wk]), (20, .slice b ys.length e), (21, .int .i64 (k : Int)), (22, .pointer (some ⟨b158, o160, none⟩)), (23, .agg #[.int .i64 x156.th, .int .i64 x156.ve, .bool x156.rd, .bool x156.wr, .bool x156.wk])]) (fun w' => w107.grownBy w' none) Qq (by kernel_rfl) (X5 _) ?_ ?_
   ·
    refine Xd rfl (fun w164 hi165 => ?_) ?_
    ·
     have hb166 := low0 hb108 hi165
     refine wpo_move (v := .slice a xs.length c) e111 rfl ?_
     exact wpo_nil ⟨rfl, hi165⟩
    refine Xd rfl (fun w167 hi168 => ?_) ?_
    ·
     have hb169 := low0 hb108 hi168
     refine wpo_move (v := .int .i64 (k : Int)) rfl rfl ?_
     exact wpo_nil ⟨rfl, hi168⟩
    refine Xd rfl (fun w170 hi171 => ?_) ?_
    ·
     have hb172 := low0 hb108 hi171
     refine X2 We rfl rfl ha153 ho154 (by omega) (by omega) rfl ?_
     exact wpo_nil ⟨rfl, hi171⟩
    refine Xd rfl (fun w173 hi174 => ?_) ?_
    ·
     have hb175 := low0 hb108 hi174
     refine wpo_loadn (vs := [.int .i64 x148.th, .int .i64 x148.ve, .bool x148.rd, .bool x148.wr, .bool x148.wk]) Y1 rfl rfl (Qa (Yp hr155 hb175) 0 5 rfl) rfl ?_
     exact wpo_nil ⟨rfl, hi174⟩
    refine Xd rfl (fun w176 hi177 => ?_) ?_
    ·
     have hb178 := low0 hb108 hi177
     refine wpo_move (v := .slice b ys.length e) e112 rfl ?_
     exact wpo_nil ⟨rfl, hi177⟩
    refine Xd rfl (fun w179 hi180 => ?_) ?_
    ·
     have hb181 := low0 hb108 hi180
     refine wpo_move (v := .int .i64 (k : Int)) rfl rfl ?_
     exact wpo_nil ⟨rfl, hi180⟩
    refine Xd rfl (fun w182 hi183 => ?_) ?_
    ·
     have hb184 := low0 hb108 hi183
     refine X2 We rfl rfl ha161 ho162 (by omega) (by omega) rfl ?_
     exact wpo_nil ⟨rfl, hi183⟩
    refine Xd rfl (fun w185 hi186 => ?_) ?_
    ·
     have hb187 := low0 hb108 hi186
     refine wpo_loadn (vs := [.int .i64 x156.th, .int .i64 x156.ve, .bool x156.rd, .bool x156.wr, .bool x156.wk]) Y1 rfl rfl (Qa (Yp hr163 hb187) 0 5 rfl) rfl ?_
     exact wpo_nil ⟨rfl, hi186⟩
    exact Q0
   ·
    intro w188 hi189
    have hb190 := low0 hb108 hi189
    refine wpo_eqs (q := !(decide (x148 = x156))) rfl rfl rfl rfl (fun _ => B4 _ _ x148 x156 _) (fun _ => B5 x148 x156 _) rfl rfl ?_
    refine wpo_nil ?_
    refine Xn ?_
    refine Xq rfl (fun h191 => ?_) (fun h191 => ?_)
    ·
     have h192 := Q3 h191
     have h193 := of_decide_eq_false h192
     refine Xa ?_
     refine wpo_assign (v := .bool false) rfl rfl ?_
     refine wpo_nil ?_
     refine Xj ?_
     refine Qd ?_
     refine X7 ?_
     refine X7 ?_
     refine Qd ?_
     refine X7 ?_
     refine ⟨.bool false, res1 rfl rfl, ?_, hb190⟩
     exact congrArg Value.bool (decide_eq_false (V4 hx149 hx157 (of_decide_eq_false h192))).symm
    ·
     have h194 := Y9 h191
     have h195 := of_decide_eq_true h194
     refine Xk ?_
     refine Yy ?_
     refine Xn ?_
     refine Xl ?_
     refine wpo_add (c := (k : Int) + 1) e110 rfl (by omega) (by omega) (by omega) rfl ?_
     refine wpo_move (v := .int .i64 ((k : Int) + 1)) rfl rfl ?_
     refine wpo_nil ?_
     refine Xn ?_
     exact ⟨xs.length - (k + 1), by omega, (k + 1), rfl, (by omega), (Jr ha hx149 hx157 (of_decide_eq_true h194)), rfl, e111, e112, e113, hb190⟩
  ·
   have h196 := of_decide_eq_false h114
   refine Yj ?_
   refine Yt ?_
   refine Yt ?_
   refine Jf ?_
   refine Xn ?_
   refine Xa ?_
   refine wpo_assign (v := .bool true) rfl rfl ?_
   refine wpo_nil ?_
   refine Xj ?_
   refine ⟨.bool true, res1 rfl rfl, ?_, hb108⟩
   exact congrArg Value.bool (decide_eq_true (Kx ha (by omega) (by omega))).symm
theorem M9 [Comp] (w : World) (xs ys : List Int) (a b : Option Addr) (c e : Nat) (hs : SlAt w a 1 (xs.map icell)) (ht : SlAt w b 1 (ys.map icell)) (hn : xs.length ≤ 1048576) (hm : ys.length ≤ 1048576) : CallsR Try.prog 99 #[.slice a xs.length c, .slice b ys.length e] w (fun v w' => v = .bool (decide (xs = ys)) ∧ w.grownBy w' none) := by
 refine Xp (n := 26) Try.func99 rfl Try.ntmps99 rfl ?_
 have hb0 := World.grownBy.refl w none
 refine Xa ?_
 refine wpo_assign (v := .bool false) rfl rfl ?_
 refine wpo_nil ?_
 refine Xi ?_
 refine Xa ?_
 refine wpo_move (v := .slice a xs.length c) rfl rfl ?_
 refine wpo_len (by kernel_rfl) rfl rfl ?_
 refine wpo_move (v := .slice b ys.length e) rfl rfl ?_
 refine wpo_len (by kernel_rfl) rfl rfl ?_
 refine wpo_neq (q := !(decide ((xs.length : Int) = (ys.length : Int)))) rfl rfl rfl rfl ?_
 refine wpo_nil ?_
 refine Xq rfl (fun h101 => ?_) (fun h101 => ?_)
 ·
  have h102 := Q3 h101
  have h103 := of_decide_eq_false h102
  refine Xa ?_
  refine wpo_assign (v := .bool false) rfl rfl ?_
  refine wpo_nil ?_
  refine Xj ?_
  refine X7 ?_
  refine ⟨.bool false, res1 rfl rfl, ?_, hb0⟩
  exact congrArg Value.bool (decide_eq_false (fun h => by have := congrArg List.length h; omega)).symm
 ·
  have h104 := Y9 h101
  have h105 := of_decide_eq_true h104
  refine Xk ?_
  refine Xn ?_
  refine Xi ?_
  refine Xa ?_
  refine wpo_move (v := .slice a xs.length c) rfl rfl ?_
  refine wpo_len (by kernel_rfl) rfl rfl ?_
  refine wpo_move (v := .int .i64 0) rfl rfl ?_
  refine wpo_nil ?_
  refine Xv ?_
  refine Ye (fun mm f' w' => ∃ (k : Nat), mm = xs.length - k ∧ k ≤ xs.length ∧ xs.take k = ys.take k ∧ f' 13 = .int .i64 (k : Int) ∧ f' 0 = .slice a xs.length c ∧ f' 1 = .slice b ys.length e ∧ f' 12 = .int .i64 (xs.length : Int) ∧ w.grownBy w' none) (xs.length - 0) ⟨0, rfl, (Nat.zero_le _), rfl, rfl, rfl, rfl, rfl, hb0⟩ ?_
  rintro mm f106 w107 ⟨k, hm109, hk, ha, e110, e111, e112, e113, hb108⟩
  refine Xa ?_
  refine wpo_lss (q := decide ((k : Int) < (xs.length : Int))) e110 e113 rfl rfl ?_
  refine wpo_nil ?_
  refine Xi ?_
  refine Xq rfl (fun h114 => ?_) (fun h114 => ?_)
  ·
   have h115 := of_decide_eq_true h114
   refine Xk ?_
   refine Xn ?_
   refine Xi ?_
   refine Xv ?_
   refine Xa ?_
   refine wpo_move (v := .int .i64 (k : Int)) e110 rfl ?_
   refine wpo_assign (v := .int .i64 (k : Int)) rfl rfl ?_
   refine wpo_nil ?_
   refine Xi ?_
   obtain ⟨x148, hx149⟩ := Qc (l := xs) (i := k) (by omega)
   obtain ⟨b150, q151, o152, ha153, ho154, hr155⟩ := SlAt.at hs (Yh hx149)
   obtain ⟨x156, hx157⟩ := Qc (l := ys) (i := k) (by omega)
   obtain ⟨b158, q159, o160, ha161, ho162, hr163⟩ := SlAt.at ht (Yh hx157)
   refine Qh (m := 8) (vals := [(16, .slice a xs.length c), (17, .int .i64 (k : Int)), (18, .pointer (some ⟨b150, o152, none⟩)), (19, .int .i64 x148), (20, .slice b ys.length e), (21, .int .i64 (k : Int)), (22, .pointer (some ⟨b158, o160, none⟩)), (23, .int .i64 x156)]) (fun w' => w107.grownBy w' none) Qq (by kernel_rfl) (X5 _) ?_ ?_
   ·
    refine Xd rfl (fun w164 hi165 => ?_) ?_
    ·
     have hb166 := low0 hb108 hi165
     refine wpo_move (v := .slice a xs.length c) e111 rfl ?_
     exact wpo_nil ⟨rfl, hi165⟩
    refine Xd rfl (fun w167 hi168 => ?_) ?_
    ·
     have hb169 := low0 hb108 hi168
     refine wpo_move (v := .int .i64 (k : Int)) rfl rfl ?_
     exact wpo_nil ⟨rfl, hi168⟩
    refine Xd rfl (fun w170 hi171 => ?_) ?_
    ·
     have hb172 := low0 hb108 hi171
     refine X2 Km rfl rfl ha153 ho154 (by omega) (by omega) rfl ?_
     exact wpo_nil ⟨rfl, hi171⟩
    refine Xd rfl (fun w173 hi174 => ?_) ?_
    ·
     have hb175 := low0 hb108 hi174
     refine wpo_load1 (v := .int .i64 x148) X0 rfl ((Yp hr155 hb175) 0 _ rfl) rfl ?_
     exact wpo_nil ⟨rfl, hi174⟩
    refine Xd rfl (fun w176 hi177 => ?_) ?_
    ·
     have hb178 := low0 hb108 hi177
     refine wpo_move (v := .slice b ys.length e) e112 rfl ?_
     exact wpo_nil ⟨rfl, hi177⟩
    refine Xd rfl (fun w179 hi180 => ?_) ?_
    ·
     have hb181 := low0 hb108 hi180
     refine wpo_move (v := .int .i64 (k : Int)) rfl rfl ?_
     exact wpo_nil ⟨rfl, hi180⟩
    refine Xd rfl (fun w182 hi183 => ?_) ?_
    ·
     have hb184 := low0 hb108 hi183
     refine X2 Km rfl rfl ha161 ho162 (by omega) (by omega) rfl ?_
     exact wpo_nil ⟨rfl, hi183⟩
    refine Xd rfl (fun w185 hi186 => ?_) ?_
    ·
     have hb187 := low0 hb108 hi186
     refine wpo_load1 (v := .int .i64 x156) X0 rfl ((Yp hr163 hb187) 0 _ rfl) rfl ?_
     exact wpo_nil ⟨rfl, hi186⟩
    exact Q0
   ·
    intro w188 hi189
    have hb190 := low0 hb108 hi189
    refine wpo_neq (q := !(decide (x148 = x156))) rfl rfl rfl rfl ?_
    refine wpo_nil ?_
    refine Xn ?_
    refine Xq rfl (fun h191 => ?_) (fun h191 => ?_)
    ·
     have h192 := Q3 h191
     have h193 := of_decide_eq_false h192
     refine Xa ?_
     refine wpo_assign (v := .bool false) rfl rfl ?_
     refine wpo_nil ?_
     refine Xj ?_
     refine Qd ?_
     refine X7 ?_
     refine X7 ?_
     refine Qd ?_
     refine X7 ?_
     refine ⟨.bool false, res1 rfl rfl, ?_, hb190⟩
     exact congrArg Value.bool (decide_eq_false (V4 hx149 hx157 (of_decide_eq_false h192))).symm
    ·
     have h194 := Y9 h191
     have h195 := of_decide_eq_true h194
     refine Xk ?_
     refine Yy ?_
     refine Xn ?_
     refine Xl ?_
     refine wpo_add (c := (k : Int) + 1) e110 rfl (by omega) (by omega) (by omega) rfl ?_
     refine wpo_move (v := .int .i64 ((k : Int) + 1)) rfl rfl ?_
     refine wpo_nil ?_
     refine Xn ?_
     exact ⟨xs.length - (k + 1), by omega, (k + 1), rfl, (by omega), (Jr ha hx149 hx157 (of_decide_eq_true h194)), rfl, e111, e112, e113, hb190⟩
  ·
   have h196 := of_decide_eq_false h114
   refine Yj ?_
   refine Yt ?_
   refine Yt ?_
   refine Jf ?_
   refine Xn ?_
   refine Xa ?_
   refine wpo_assign (v := .bool true) rfl rfl ?_
   refine wpo_nil ?_
   refine Xj ?_
   refine ⟨.bool true, res1 rfl rfl, ?_, hb108⟩
   exact congrArg Value.bool (decide_eq_true (Kx ha (by omega) (by omega))).symm
end Go.Dw.J
end
