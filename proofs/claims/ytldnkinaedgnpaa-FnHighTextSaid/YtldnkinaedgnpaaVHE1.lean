/- The row of FnHighText, proved: whatever the input, it answers true, and the input reads as it did. No condition. -/
import Derived.Test.YtldnkinaedgnpaaRows
import Derived.Test.YtldnkinaedgnpaaVH6
namespace Go.Proofs.Ytldnkinaedgnpaa
open Go.ChangeShapes Go.WideShapes Go.ChangeAt Go.RowKit Go.Dw
set_option maxRecDepth 100000
set_option linter.unusedSimpArgs false
set_option linter.unusedVariables false
theorem own_FnHighText : ownKnob Try.prog.godebug = none := by kernel_rfl
theorem out_FnHighText : laidOutB Try.prog = true := by kernel_rfl
theorem lifted_FnHighText (os : Os) (started : os.Started) (H : Type) (enc : TypeId × Value → H) :
    ReturnsInLeavingWide {} Try.checked os 6 .any (Rows.fnHighTextSpec.pre6 enc Try.prog Try.f6 Rows.fnHighTextRow.domain false) (Rows.fnHighTextSpec.post enc Try.prog Try.f6 false true false false) := by
  refine returnsInLeavingWide_of_change_sized (C := Try.checked) own_FnHighText started Try.func6
    (ChangeSpec.witness6 (enc := enc) (C := Try.checked) false ⟨#[], #[.slice none 0 0, .slice none 0 0], []⟩ 8 (by kernel_rfl) (by kernel_rfl) (by kernel_rfl) (by kernel_rfl)) ?_
  intro W base args ds gs before hval0 hW hcnd _ _
  have hval : ∀ (j : Nat) t v, Try.f6.params[j]? = some t → args[j]? = some v → Value.okWide Try.prog W .any base t v := hval0
  have hW' := hW
  obtain ⟨p, q, hA0, hV, rfl, hfz, hnd⟩ := hW
  have hA : DataW.TrodAll enc Try.prog W 0 (fun _ => true) true Try.f6.params.toList args.toList ds p := hA0
  have hlt : ∀ y ∈ p, y.block < W.heap.size := fun y hy => by simpa using hW'.lt y (List.mem_append_left _ hy)
  have hAll := hA
  rw [Try.params6] at hA hval
  obtain ⟨args⟩ := args
  obtain ⟨v0, vs0, d0, ds0, p0, q0, hvs0, hds0, hps0, h0, hA0⟩ := trodAll_cons hA
  obtain ⟨v1, vs1, d1, ds1, p1, q1, hvs1, hds1, hps1, h1, hA1⟩ := trodAll_cons hA0
  obtain ⟨hvn, hdn, hpn⟩ := trodAll_nil hA1
  subst hvn; subst hdn; subst hpn
  subst hvs1; subst hds1; subst hps1
  simp only at hvs0; subst hvs0; subst hds0; subst hps0
  obtain ⟨rfl, rfl⟩ := trodVars_none hV
  obtain ⟨a0, bs0, c0, rfl, hl0, hc0, hs0, hb0⟩ := S6 (g := bcell) (ok := fun n => 0 ≤ n ∧ n ≤ 255) (sz := 1) (t := 22) (e := 5) (by kernel_rfl) (by kernel_rfl) (by omega) Nr (fun n cs x hx => Ch (by kernel_rfl) hx) (hval 0 22 v0 rfl rfl) h0
  obtain ⟨a1, bs1, c1, rfl, hl1, hc1, hs1, hb1⟩ := S6 (g := bcell) (ok := fun n => 0 ≤ n ∧ n ≤ 255) (sz := 1) (t := 22) (e := 5) (by kernel_rfl) (by kernel_rfl) (by omega) Nr (fun n cs x hx => Ch (by kernel_rfl) hx) (hval 1 22 v1 rfl rfl) h1
  obtain ⟨M, last, o, w', t', h1, h2, h3, h4⟩ := Go.Dw.J.law_good (W := W) Try.func6 rfl Try.ntmps6 (by kernel_rfl) (by kernel_rfl) (fun hKB => Go.Dw.J.law_FnHighText bs0 a0 c0 _ (Go.Dw.J.seeAll_sl hs0) hb0 hl0 hc0 bs1.length a1 c1 hl1 hKB)
  refine ⟨M, last, o, w', t', h1, h2, h3, h4.mono fun v hp => ?_⟩
  obtain ⟨rfl, hbelow⟩ := hp
  exact Tz (T0 (tb := 4) out_FnHighText (by kernel_rfl) hW' hAll hlt rfl rfl rfl (by kernel_rfl) hbelow)
theorem holds_FnHighText : Rows.FnHighTextSaid :=
  OpenClaim.holds_of_wide_leaving 6 Try.f6 rfl rfl rfl rfl rfl rfl rfl ⟨rfl, rfl, rfl, rfl, rfl⟩ rfl rfl rfl rfl rfl (by kernel_rfl) Try.func6 (by kernel_rfl)
    (of_decide_eq_true (by kernel_rfl)) (by unfold Func.isWrapper; first | (rw [if_pos (by decide +kernel)]; kernel_rfl) | (rw [if_neg (by decide +kernel)]; exact ⟨rfl, rfl⟩))
    (fun os started H enc _ => lifted_FnHighText os started H enc)
end Go.Proofs.Ytldnkinaedgnpaa
