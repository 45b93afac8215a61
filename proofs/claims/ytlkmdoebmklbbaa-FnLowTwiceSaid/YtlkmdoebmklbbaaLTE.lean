/- The row of FnLowTwice, proved: whatever the input, it answers true, and the input reads as it did. No condition. -/
import Derived.Test.YtlkmdoebmklbbaaRows
import Derived.Test.YtlkmdoebmklbbaaL
import Derived.Test.YtlkmdoebmklbbaaLT5
namespace Go.Proofs.Ytlkmdoebmklbbaa
open Go.ChangeShapes Go.WideShapes Go.ChangeAt Go.RowKit Go.Dw
set_option maxRecDepth 100000
set_option linter.unusedSimpArgs false
set_option linter.unusedVariables false
theorem own_FnLowTwice : ownKnob Try.prog.godebug = none := by kernel_rfl
theorem out_FnLowTwice : laidOutB Try.prog = true := by kernel_rfl
theorem lifted_FnLowTwice (os : Os) (started : os.Started) (H : Type) (enc : TypeId × Value → H) :
    ReturnsInHanded {} Try.checked os 12 .any (Rows.fnLowTwiceSpec.pre6 enc Try.prog Try.f12 Rows.fnLowTwiceRow.domain false) (Rows.fnLowTwiceSpec.post enc Try.prog Try.f12 false true false false) := by
  refine returnsInHanded_of_change (C := Try.checked) own_FnLowTwice started (by kernel_rfl) Try.func12
    (ChangeSpec.witness6 (enc := enc) (C := Try.checked) false ⟨#[], #[.slice none 0 0, .slice none 0 0], []⟩ 8 (by kernel_rfl) (by kernel_rfl) (by kernel_rfl) (by kernel_rfl)) ?_
  intro W base args ds gs before hval0 hW hcnd _
  have hval : ∀ (j : Nat) t v, Try.f12.params[j]? = some t → args[j]? = some v → Value.okWide Try.prog W .any base t v := hval0
  have hW' := hW
  obtain ⟨p, q, hA0, hV, rfl, hfz, hnd⟩ := hW
  have hA : DataW.TrodAll enc Try.prog W 0 (fun _ => true) true Try.f12.params.toList args.toList ds p := hA0
  have hlt : ∀ y ∈ p, y.block < W.heap.size := fun y hy => by simpa using hW'.lt y (List.mem_append_left _ hy)
  have hAll := hA
  rw [Try.params12] at hA hval
  obtain ⟨args⟩ := args
  obtain ⟨v0, vs0, d0, ds0, p0, q0, hvs0, hds0, hps0, h0, hA0⟩ := trodAll_cons hA
  obtain ⟨v1, vs1, d1, ds1, p1, q1, hvs1, hds1, hps1, h1, hA1⟩ := trodAll_cons hA0
  obtain ⟨hvn, hdn, hpn⟩ := trodAll_nil hA1
  subst hvn; subst hdn; subst hpn
  subst hvs1; subst hds1; subst hps1
  simp only at hvs0; subst hvs0; subst hds0; subst hps0
  obtain ⟨rfl, rfl⟩ := trodVars_none hV
  obtain ⟨a0, bs0, c0, rfl, hl0, hc0, hs0, hb0⟩ := open_sl (g := bcell) (ok := fun n => 0 ≤ n ∧ n ≤ 255) (sz := 1) (t := 33) (e := 5) (by kernel_rfl) (by kernel_rfl) (by omega) wide_b (fun n cs x hx => read_b (by kernel_rfl) hx) (hval 0 33 v0 rfl rfl) h0
  obtain ⟨a1, bs1, c1, rfl, hl1, hc1, hs1, hb1⟩ := open_sl (g := bcell) (ok := fun n => 0 ≤ n ∧ n ≤ 255) (sz := 1) (t := 33) (e := 5) (by kernel_rfl) (by kernel_rfl) (by omega) wide_b (fun n cs x hx => read_b (by kernel_rfl) hx) (hval 1 33 v1 rfl rfl) h1
  refine Calls.mono (law_FnLowTwice bs0 a0 c0 W hs0 hb0 hl0 hc0 bs1.length a1 c1 hl1) fun e Wn hw => ?_
  obtain ⟨_, rfl, rfl, hg⟩ := hw
  exact ⟨_, rfl, post_true (tb := 4) out_FnLowTwice (by kernel_rfl) hW' hAll hlt rfl rfl rfl (by kernel_rfl) (below_none hg (Nat.le_refl _))⟩
theorem holds_FnLowTwice : Rows.FnLowTwiceSaid :=
  OpenClaim.holds_of_wide 12 Try.f12 rfl rfl rfl rfl rfl rfl rfl ⟨rfl, rfl, rfl, rfl, rfl⟩ rfl rfl rfl rfl rfl (by kernel_rfl) Try.func12 (by kernel_rfl)
    (of_decide_eq_true (by kernel_rfl)) (by unfold Func.isWrapper; first | (rw [if_pos (by decide +kernel)]; kernel_rfl) | (rw [if_neg (by decide +kernel)]; exact ⟨rfl, rfl⟩))
    (fun os started H enc _ => lifted_FnLowTwice os started H enc)
end Go.Proofs.Ytlkmdoebmklbbaa
