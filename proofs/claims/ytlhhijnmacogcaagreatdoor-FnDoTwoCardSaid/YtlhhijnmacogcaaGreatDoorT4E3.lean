/- The tied card of FnDoTwo: whatever the input, it answers true, and the input reads as it did. Condition: errors.errorType starts as the program's text lays it, and the card ties that to the text. -/
import Derived.Test.YtlhhijnmacogcaaGreatDoorRows
import Derived.Test.YtlhhijnmacogcaaGreatDoorTie
import Derived.Test.YtlhhijnmacogcaaGreatDoorCards
import Derived.Test.YtlhhijnmacogcaaGreatDoorT4L3
namespace Go.Proofs.YtlhhijnmacogcaaGreatDoor
open Go.ChangeShapes Go.WideShapes Go.ChangeAt Go.RowKit Go.Dw
set_option maxRecDepth 100000
set_option linter.unusedSimpArgs false
set_option linter.unusedVariables false
theorem own_FnDoTwo : ownKnob Tryz.prog.godebug = none := by kernel_rfl
theorem out_FnDoTwo : laidOutB Tryz.prog = true := by kernel_rfl
theorem lifted_FnDoTwo (os : Os) (started : os.Started) (H : Type) (enc : TypeId × Value → H) :
    ReturnsInHanded {} Tryz.checked os 9 .any (fun w args => (Rows.fnDoTwoSpec.pre enc Tryz.prog Tryz.f9 Rows.fnDoTwoRow.domain false w args ∧ laidMetH Tryz.prog laidE w) ∧ sizedMet enc Tryz.prog Tryz.f9 (OpenSpec.ofChange Rows.fnDoTwoSpec) false w args) (Rows.fnDoTwoSpec.post enc Tryz.prog Tryz.f9 false true false false) := by
  refine returnsInHanded_of_change_and (C := Tryz.checked) (X := fun w _ => laidMetH Tryz.prog laidE w) (fun _ _ _ hh h => h.of_heap hh) own_FnDoTwo started (by kernel_rfl) Tryz.func9
    (ChangeSpec.witness_at (enc := enc) (C := Tryz.checked) (os := os) (X := fun w _ => laidMetH Tryz.prog laidE w) false (laidWorld os) #[.slice none 0 0, .slice none 0 0] 8 rfl (by kernel_rfl) (by kernel_rfl) (by kernel_rfl) (by kernel_rfl) (by kernel_rfl) (Ui os _)) ?_
  intro W base args ds gs before hval0 hW _ _ hL _
  have hE := U2 hL
  have hval : ∀ (j : Nat) t v, Tryz.f9.params[j]? = some t → args[j]? = some v → Value.okWide Tryz.prog W .any base t v := hval0
  have hW' := hW
  obtain ⟨p, q, hA0, hV, rfl, hfz, hnd⟩ := hW
  have hA : DataW.TrodAll enc Tryz.prog W 0 (fun _ => true) true Tryz.f9.params.toList args.toList ds p := hA0
  have hlt : ∀ y ∈ p, y.block < W.heap.size := fun y hy => by simpa using hW'.lt y (List.mem_append_left _ hy)
  have hAll := hA
  rw [Tryz.params9] at hA hval
  obtain ⟨args⟩ := args
  obtain ⟨v0, vs0, d0, ds0, p0, q0, hvs0, hds0, hps0, h0, hA0⟩ := trodAll_cons hA
  obtain ⟨v1, vs1, d1, ds1, p1, q1, hvs1, hds1, hps1, h1, hA1⟩ := trodAll_cons hA0
  obtain ⟨hvn, hdn, hpn⟩ := trodAll_nil hA1
  subst hvn; subst hdn; subst hpn
  subst hvs1; subst hds1; subst hps1
  simp only at hvs0; subst hvs0; subst hds0; subst hps0
  obtain ⟨rfl, rfl⟩ := trodVars_none hV
  obtain ⟨a0, bs0, c0, rfl, hl0, hc0, hs0, hb0⟩ := Hq (g := bcell) (ok := fun n => 0 ≤ n ∧ n ≤ 255) (sz := 1) (t := 22) (e := 5) (by kernel_rfl) (by kernel_rfl) (by omega) Wr (fun n cs x hx => Pb (by kernel_rfl) hx) (hval 0 22 v0 rfl rfl) h0
  obtain ⟨a1, bs1, c1, rfl, hl1, hc1, hs1, hb1⟩ := Hq (g := bcell) (ok := fun n => 0 ≤ n ∧ n ≤ 255) (sz := 1) (t := 22) (e := 5) (by kernel_rfl) (by kernel_rfl) (by omega) Wr (fun n cs x hx => Pb (by kernel_rfl) hx) (hval 1 22 v1 rfl rfl) h1
  refine Calls.mono (law_FnDoTwo bs0 a0 c0 W hs0 hb0 hl0 hc0 bs1.length a1 c1 hl1 hE) fun e Wn hw => ?_
  obtain ⟨_, rfl, rfl, hg⟩ := hw
  exact ⟨_, rfl, G6 (tb := 4) out_FnDoTwo (by kernel_rfl) hW' hAll hlt rfl rfl rfl (by kernel_rfl) (V2 hg (Nat.le_refl _))⟩
theorem holds_FnDoTwo : Rows.FnDoTwoSaid :=
  OpenClaim.holds_of_wide 9 Tryz.f9 rfl rfl rfl rfl rfl rfl rfl ⟨rfl, rfl, rfl, rfl, rfl⟩ rfl rfl rfl rfl rfl (by kernel_rfl) Tryz.func9 (by kernel_rfl)
    (of_decide_eq_true (by kernel_rfl)) (by unfold Func.isWrapper; first | (rw [if_pos (by decide +kernel)]; kernel_rfl) | (rw [if_neg (by decide +kernel)]; exact ⟨rfl, rfl⟩))
    (fun os started H enc _ => lifted_FnDoTwo os started H enc)
theorem card_FnDoTwo : Rows.FnDoTwoCardSaid :=
  Claim7.holds_tied_plain_at .later [] [.handle] true (true, "0e3e13edc27541df9cac9fe7aed5c101b3bdbc0667b2e68bb12f3b8ac941e3d3") true
    holds_FnDoTwo (fun _ h => by cases h) (by kernel_rfl) (fun _ h => by cases h) fnDoTwo_row_tie rfl ⟨rfl, rfl⟩ (by kernel_rfl) rfl
    (fun f fn hf hfn => by
      obtain rfl : f = 9 := Option.some.inj ((show Tryz.prog.funcNamed "loop.example/drawbar/laws.FnDoTwo" = some 9 by kernel_rfl).symm.trans hf) |>.symm
      obtain rfl : fn = Tryz.f9 := (Option.some.inj (Tryz.func9.symm.trans hfn)).symm
      exact ⟨by kernel_rfl, fun j t ht => by
        rw [Tryz.params9] at ht
        rcases j with _ | _ | j
        · obtain rfl : t = 22 := by simpa using ht.symm
          exact (show Tryz.prog.wantsStandIn 22 = false by kernel_rfl)
        · obtain rfl : t = 22 := by simpa using ht.symm
          exact (show Tryz.prog.wantsStandIn 22 = false by kernel_rfl)
        · simp at ht⟩)
    (by kernel_rfl)
end Go.Proofs.YtlhhijnmacogcaaGreatDoor
