/- The tied card of FnNewApart: whatever the input, it answers true, and the input reads as it did. Condition: three tables of the library (internal/strconv.uint64pow10 and two of math/bits) start as the program's text lays it, and the card ties them to the text. -/
import Derived.Test.YtemimomfjapgiaaDoorRows
import Derived.Test.YtemimomfjapgiaaDoorLX
import Derived.Test.YtemimomfjapgiaaDoorL
import Derived.Test.YtemimomfjapgiaaDoorPT
import Derived.Test.YtemimomfjapgiaaDoorTie
import Derived.Test.YtemimomfjapgiaaDoorCards
namespace Go.Proofs.YtemimomfjapgiaaDoor
open Go.ChangeShapes Go.WideShapes Go.ChangeAt Go.RowKit Go.Dw
set_option maxRecDepth 100000
set_option linter.unusedSimpArgs false
set_option linter.unusedVariables false
theorem own_FnNewApart : ownKnob Tryd.prog.godebug = none := by kernel_rfl
theorem out_FnNewApart : laidOutB Tryd.prog = true := by kernel_rfl
theorem lifted_FnNewApart (os : Os) (started : os.Started) (H : Type) (enc : TypeId × Value → H) :
    ReturnsInHanded {} Tryd.checked os 4 .any (fun w args => (Rows.fnNewApartSpec.pre enc Tryd.prog Tryd.f4 Rows.fnNewApartRow.domain false w args ∧ laidMetH Tryd.prog laidE w) ∧ sizedMet enc Tryd.prog Tryd.f4 (OpenSpec.ofChange Rows.fnNewApartSpec) false w args) (Rows.fnNewApartSpec.post enc Tryd.prog Tryd.f4 false true false false) := by
  refine returnsInHanded_of_change_and (C := Tryd.checked) (X := fun w _ => laidMetH Tryd.prog laidE w) (fun _ _ _ hh h => h.of_heap hh) own_FnNewApart started (by kernel_rfl) Tryd.func4
    (ChangeSpec.witness_shaped (enc := enc) (C := Tryd.checked) (os := os) (X := fun w _ => laidMetH Tryd.prog laidE w) false (World.doorLaid Tryd.prog 24 os) #[.slice none 0 0, .slice none 0 0] 8 rfl (World.shaped_of_RefB (by kernel_rfl) (by kernel_rfl)) (by kernel_rfl) (by kernel_rfl) (by kernel_rfl) (laidWorld_met os _)) ?_
  intro W base args ds gs before hval0 hW _ _ hL _
  have hE := powT_of_laid hL
  have hval : ∀ (j : Nat) t v, Tryd.f4.params[j]? = some t → args[j]? = some v → Value.okWide Tryd.prog W .any base t v := hval0
  have hW' := hW
  obtain ⟨p, q, hA0, hV, rfl, hfz, hnd⟩ := hW
  have hA : DataW.TrodAll enc Tryd.prog W 0 (fun _ => true) true Tryd.f4.params.toList args.toList ds p := hA0
  have hlt : ∀ y ∈ p, y.block < W.heap.size := fun y hy => by simpa using hW'.lt y (List.mem_append_left _ hy)
  have hAll := hA
  rw [Tryd.params4] at hA hval
  obtain ⟨args⟩ := args
  obtain ⟨v0, vs0, d0, ds0, p0, q0, hvs0, hds0, hps0, h0, hA0⟩ := trodAll_cons hA
  obtain ⟨v1, vs1, d1, ds1, p1, q1, hvs1, hds1, hps1, h1, hA1⟩ := trodAll_cons hA0
  obtain ⟨hvn, hdn, hpn⟩ := trodAll_nil hA1
  subst hvn; subst hdn; subst hpn
  subst hvs1; subst hds1; subst hps1
  simp only at hvs0; subst hvs0; subst hds0; subst hps0
  obtain ⟨rfl, rfl⟩ := trodVars_none hV
  obtain ⟨a0, bs0, c0, rfl, hl0, hc0, hs0, hb0⟩ := open_sl (g := bcell) (ok := fun n => 0 ≤ n ∧ n ≤ 255) (sz := 1) (t := 22) (e := 5) (by kernel_rfl) (by kernel_rfl) (by omega) wide_b (fun n cs x hx => read_b (by kernel_rfl) hx) (hval 0 22 v0 rfl rfl) h0
  obtain ⟨a1, bs1, c1, rfl, hl1, hc1, hs1, hb1⟩ := open_sl (g := bcell) (ok := fun n => 0 ≤ n ∧ n ≤ 255) (sz := 1) (t := 22) (e := 5) (by kernel_rfl) (by kernel_rfl) (by omega) wide_b (fun n cs x hx => read_b (by kernel_rfl) hx) (hval 1 22 v1 rfl rfl) h1
  refine Calls.mono (law_FnNewApart bs0 a0 c0 W hs0 hb0 hl0 hc0 bs1.length a1 c1 hl1 hE) fun e Wn hw => ?_
  obtain ⟨_, rfl, rfl, hg⟩ := hw
  exact ⟨_, rfl, post_true (tb := 4) out_FnNewApart (by kernel_rfl) hW' hAll hlt rfl rfl rfl (by kernel_rfl) (below_none hg (Nat.le_refl _))⟩
theorem holds_FnNewApart : Rows.FnNewApartSaid :=
  OpenClaim.holds_of_wide 4 Tryd.f4 rfl rfl rfl rfl rfl rfl rfl ⟨rfl, rfl, rfl, rfl, rfl⟩ rfl rfl rfl rfl rfl (by kernel_rfl) Tryd.func4 (by kernel_rfl)
    (of_decide_eq_true (by kernel_rfl)) (by unfold Func.isWrapper; first | (rw [if_pos (by decide +kernel)]; kernel_rfl) | (rw [if_neg (by decide +kernel)]; exact ⟨rfl, rfl⟩))
    (fun os started H enc _ => lifted_FnNewApart os started H enc)
theorem card_FnNewApart : Rows.FnNewApartCardSaid :=
  Claim7.holds_tied_plain_at .later [] [.data, .data, .data] true (true, "465d5337aa6c15ec85946dee767d1e0e47d2f4812a9e1ae442ec6b684144e1ff") false
    holds_FnNewApart (fun _ h => by cases h) (by kernel_rfl) (fun _ h => by cases h) fnNewApart_row_tie rfl ⟨rfl, rfl⟩ (by kernel_rfl) rfl
    (fun f fn hf hfn => by
      obtain rfl : f = 4 := Option.some.inj ((show Tryd.prog.funcNamed "loop.example/drawbar/laws.FnNewApart" = some 4 by kernel_rfl).symm.trans hf) |>.symm
      obtain rfl : fn = Tryd.f4 := (Option.some.inj (Tryd.func4.symm.trans hfn)).symm
      exact ⟨by kernel_rfl, fun j t ht => by
        rw [Tryd.params4] at ht
        rcases j with _ | _ | j
        · obtain rfl : t = 22 := by simpa using ht.symm
          exact (show Tryd.prog.wantsStandIn 22 = false by kernel_rfl)
        · obtain rfl : t = 22 := by simpa using ht.symm
          exact (show Tryd.prog.wantsStandIn 22 = false by kernel_rfl)
        · simp at ht⟩)
    (by kernel_rfl)
end Go.Proofs.YtemimomfjapgiaaDoor
