/- The tied card of %s: whatever the input, it answers true, and the input reads as it did. Condition: errors.errorType starts as the program's text lays it, and the card ties that to the text. -/
import Derived.Test.YtfoplmgoiblkgaaDoorRows
import Derived.Test.YtfoplmgoiblkgaaDoorTie
import Derived.Test.YtfoplmgoiblkgaaDoorCards
import Derived.Test.YtfoplmgoiblkgaaDoorCR5
namespace Go.Proofs.YtfoplmgoiblkgaaDoor
open Go.ChangeShapes Go.WideShapes Go.ChangeAt Go.RowKit Go.Dw
set_option maxRecDepth 100000
set_option linter.unusedSimpArgs false
set_option linter.unusedVariables false
theorem own_FnReadUp : ownKnob Tryd.prog.godebug = none := by kernel_rfl
theorem out_FnReadUp : laidOutB Tryd.prog = true := by kernel_rfl
theorem lifted_FnReadUp (os : Os) (started : os.Started) (H : Type) (enc : TypeId × Value → H) :
    ReturnsInHanded {} Tryd.checked os 6 .any (fun w args => (Rows.fnReadUpSpec.pre enc Tryd.prog Tryd.f6 Rows.fnReadUpRow.domain false w args ∧ laidMetH Tryd.prog laidE w) ∧ sizedMet enc Tryd.prog Tryd.f6 (OpenSpec.ofChange Rows.fnReadUpSpec) false w args) (Rows.fnReadUpSpec.post enc Tryd.prog Tryd.f6 false true false false) := by
  refine returnsInHanded_of_change_and (C := Tryd.checked) (X := fun w _ => laidMetH Tryd.prog laidE w) (fun _ _ _ hh h => h.of_heap hh) own_FnReadUp started (by kernel_rfl) Tryd.func6
    (ChangeSpec.witness_at (enc := enc) (C := Tryd.checked) (os := os) (X := fun w _ => laidMetH Tryd.prog laidE w) false (laidWorld os) #[.slice none 0 0] 8 rfl (by kernel_rfl) (by kernel_rfl) (by kernel_rfl) (by kernel_rfl) (by kernel_rfl) (Ji os _)) ?_
  intro W base args ds gs before hval0 hW _ _ hL _
  have hE := Jy hL
  have hval : ∀ (j : Nat) t v, Tryd.f6.params[j]? = some t → args[j]? = some v → Value.okWide Tryd.prog W .any base t v := hval0
  have hW' := hW
  obtain ⟨p, q, hA0, hV, rfl, hfz, hnd⟩ := hW
  have hA : DataW.TrodAll enc Tryd.prog W 0 (fun _ => true) true Tryd.f6.params.toList args.toList ds p := hA0
  have hlt : ∀ y ∈ p, y.block < W.heap.size := fun y hy => by simpa using hW'.lt y (List.mem_append_left _ hy)
  have hAll := hA
  rw [Tryd.params6] at hA hval
  obtain ⟨args⟩ := args
  obtain ⟨v0, vs0, d0, ds0, p0, q0, hvs0, hds0, hps0, h0, hA0⟩ := trodAll_cons hA
  obtain ⟨hvn, hdn, hpn⟩ := trodAll_nil hA0
  subst hvn; subst hdn; subst hpn
  simp only at hvs0; subst hvs0; subst hds0; subst hps0
  obtain ⟨rfl, rfl⟩ := trodVars_none hV
  obtain ⟨a0, bs0, c0, rfl, hl0, hc0, hs0, hb0⟩ := Ub (g := bcell) (ok := fun n => 0 ≤ n ∧ n ≤ 255) (sz := 1) (t := 33) (e := 5) (by kernel_rfl) (by kernel_rfl) (by omega) Vc (fun n cs x hx => H8 (by kernel_rfl) hx) (hval 0 33 v0 rfl rfl) h0
  refine Calls.mono (law_FnReadUp bs0 a0 c0 W hs0 hb0 hl0 hc0 hE) fun e Wn hw => ?_
  obtain ⟨_, rfl, rfl, hg⟩ := hw
  exact ⟨_, rfl, K6 (tb := 4) out_FnReadUp (by kernel_rfl) hW' hAll hlt rfl rfl rfl (by kernel_rfl) (Jb hg (Nat.le_refl _))⟩
theorem holds_FnReadUp : Rows.FnReadUpSaid :=
  OpenClaim.holds_of_wide 6 Tryd.f6 rfl rfl rfl rfl rfl rfl rfl ⟨rfl, rfl, rfl, rfl, rfl⟩ rfl rfl rfl rfl rfl (by kernel_rfl) Tryd.func6 (by kernel_rfl)
    (of_decide_eq_true (by kernel_rfl)) (by unfold Func.isWrapper; first | (rw [if_pos (by decide +kernel)]; kernel_rfl) | (rw [if_neg (by decide +kernel)]; exact ⟨rfl, rfl⟩))
    (fun os started H enc _ => lifted_FnReadUp os started H enc)
theorem card_FnReadUp : Rows.FnReadUpCardSaid :=
  Claim7.holds_tied_plain_at .later [] [.handle] true (true, "068818c9df14be91abffa50f553e89669c2dcd6ceb82c64ce0380746fbe4ef75") true
    holds_FnReadUp (fun _ h => by cases h) (by kernel_rfl) (fun _ h => by cases h) fnReadUp_row_tie rfl ⟨rfl, rfl⟩ (by kernel_rfl) rfl
    (fun f fn hf hfn => by
      obtain rfl : f = 6 := Option.some.inj ((show Tryd.prog.funcNamed "loop.example/drawbar/laws.FnReadUp" = some 6 by kernel_rfl).symm.trans hf) |>.symm
      obtain rfl : fn = Tryd.f6 := (Option.some.inj (Tryd.func6.symm.trans hfn)).symm
      exact ⟨by kernel_rfl, fun j t ht => by
        rw [Tryd.params6] at ht
        rcases j with _ | j
        · obtain rfl : t = 33 := by simpa using ht.symm
          exact (show Tryd.prog.wantsStandIn 33 = false by kernel_rfl)
        · simp at ht⟩)
    (by kernel_rfl)
end Go.Proofs.YtfoplmgoiblkgaaDoor
