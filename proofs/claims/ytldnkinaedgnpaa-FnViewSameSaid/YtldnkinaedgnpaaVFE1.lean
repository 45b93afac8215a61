/- The row of FnViewSame, proved: whatever the input, it answers true, and the input reads as it did. No condition. -/
import Derived.Test.YtldnkinaedgnpaaRows
import Derived.Test.YtldnkinaedgnpaaVF5
namespace Go.Proofs.Ytldnkinaedgnpaa
open Go.ChangeShapes Go.WideShapes Go.ChangeAt Go.RowKit Go.Dw
set_option maxRecDepth 100000
set_option linter.unusedSimpArgs false
set_option linter.unusedVariables false
theorem own_FnViewSame : ownKnob Try.prog.godebug = none := by kernel_rfl
theorem out_FnViewSame : laidOutB Try.prog = true := by kernel_rfl
theorem lifted_FnViewSame (os : Os) (started : os.Started) (H : Type) (enc : TypeId × Value → H) :
    ReturnsInLeavingWide {} Try.checked os 8 .any (Rows.fnViewSameSpec.pre6 enc Try.prog Try.f8 Rows.fnViewSameRow.domain false) (Rows.fnViewSameSpec.post enc Try.prog Try.f8 false true false false) := by
  refine returnsInLeavingWide_of_change_sized (C := Try.checked) own_FnViewSame started Try.func8
    (ChangeSpec.witness6 (enc := enc) (C := Try.checked) false ⟨#[], #[.slice none 0 0], []⟩ 8 (by kernel_rfl) (by kernel_rfl) (by kernel_rfl) (by kernel_rfl)) ?_
  intro W base args ds gs before hval0 hW hcnd _ _
  have hval : ∀ (j : Nat) t v, Try.f8.params[j]? = some t → args[j]? = some v → Value.okWide Try.prog W .any base t v := hval0
  have hW' := hW
  obtain ⟨p, q, hA0, hV, rfl, hfz, hnd⟩ := hW
  have hA : DataW.TrodAll enc Try.prog W 0 (fun _ => true) true Try.f8.params.toList args.toList ds p := hA0
  have hlt : ∀ y ∈ p, y.block < W.heap.size := fun y hy => by simpa using hW'.lt y (List.mem_append_left _ hy)
  have hAll := hA
  rw [Try.params8] at hA hval
  obtain ⟨args⟩ := args
  obtain ⟨v0, vs0, d0, ds0, p0, q0, hvs0, hds0, hps0, h0, hA0⟩ := trodAll_cons hA
  obtain ⟨hvn, hdn, hpn⟩ := trodAll_nil hA0
  subst hvn; subst hdn; subst hpn
  simp only at hvs0; subst hvs0; subst hds0; subst hps0
  obtain ⟨rfl, rfl⟩ := trodVars_none hV
  obtain ⟨a0, bs0, c0, rfl, hl0, hc0, hs0, hb0⟩ := Xa7 (g := bcell) (ok := fun n => 0 ≤ n ∧ n ≤ 255) (sz := 1) (t := 22) (e := 5) (by kernel_rfl) (by kernel_rfl) (by omega) T4 (fun n cs x hx => Xdf (by kernel_rfl) hx) (hval 0 22 v0 rfl rfl) h0
  obtain ⟨M, last, o, w', t', h1, h2, h3, h4⟩ := Go.Dw.J.law_good (W := W) Try.func8 rfl Try.ntmps8 (by kernel_rfl) (by kernel_rfl) (fun hKB => Go.Dw.J.law_FnViewSame bs0 a0 c0 _ (Go.Dw.J.seeAll_sl hs0) hb0 hl0 hc0 hKB)
  refine ⟨M, last, o, w', t', h1, h2, h3, h4.mono fun v hp => ?_⟩
  obtain ⟨rfl, hbelow⟩ := hp
  exact Ie (Ig (tb := 4) out_FnViewSame (by kernel_rfl) hW' hAll hlt rfl rfl rfl (by kernel_rfl) hbelow)
theorem holds_FnViewSame : Rows.FnViewSameSaid :=
  OpenClaim.holds_of_wide_leaving 8 Try.f8 rfl rfl rfl rfl rfl rfl rfl ⟨rfl, rfl, rfl, rfl, rfl⟩ rfl rfl rfl rfl rfl (by kernel_rfl) Try.func8 (by kernel_rfl)
    (of_decide_eq_true (by kernel_rfl)) (by unfold Func.isWrapper; first | (rw [if_pos (by decide +kernel)]; kernel_rfl) | (rw [if_neg (by decide +kernel)]; exact ⟨rfl, rfl⟩))
    (fun os started H enc _ => lifted_FnViewSame os started H enc)
end Go.Proofs.Ytldnkinaedgnpaa
