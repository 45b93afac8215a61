/- The row of FnExactThingNew, proved: whatever the input, it answers true, and the input reads as it did. No condition. -/
import Derived.Test.YtlkmdoebmklbbaaRows
import Derived.Test.YtlkmdoebmklbbaaLT
import Derived.Test.YtlkmdoebmklbbaaL
namespace Go.Proofs.Ytlkmdoebmklbbaa
open Go.ChangeShapes Go.WideShapes Go.ChangeAt Go.RowKit Go.Dw
set_option maxRecDepth 100000
set_option linter.unusedSimpArgs false
set_option linter.unusedVariables false
theorem labty_50 : LabTy Try.prog 50 3 := ⟨by kernel_rfl, by kernel_rfl, by kernel_rfl, by kernel_rfl, by kernel_rfl⟩
theorem own_FnExactThingNew : ownKnob Try.prog.godebug = none := by kernel_rfl
theorem out_FnExactThingNew : laidOutB Try.prog = true := by kernel_rfl
theorem lifted_FnExactThingNew (os : Os) (started : os.Started) (H : Type) (enc : TypeId × Value → H) :
    ReturnsInHanded {} Try.checked os 6 .any (Rows.fnExactThingNewSpec.pre6 enc Try.prog Try.f6 Rows.fnExactThingNewRow.domain false) (Rows.fnExactThingNewSpec.post enc Try.prog Try.f6 false true false false) := by
  refine returnsInHanded_of_change (C := Try.checked) own_FnExactThingNew started (by kernel_rfl) Try.func6
    (ChangeSpec.witness6 (enc := enc) (C := Try.checked) false ⟨#[], #[.int .i64 0, .agg #[.int .i64 0, .int .i64 0], .int .i64 0], []⟩ 8 (by kernel_rfl) (by kernel_rfl) (by kernel_rfl) (by kernel_rfl)) ?_
  intro W base args ds gs before hval0 hW hcnd _
  have hval : ∀ (j : Nat) t v, Try.f6.params[j]? = some t → args[j]? = some v → Value.okWide Try.prog W .any base t v := hval0
  have hW' := hW
  obtain ⟨p, q, hA0, hV, rfl, hfz, hnd⟩ := hW
  have hA : DataW.TrodAll enc Try.prog W 0 (fun _ => true) true Try.f6.params.toList args.toList ds p := hA0
  have hlt : ∀ y ∈ p, y.block < W.heap.size := fun y hy => by simpa using hW'.lt y (List.mem_append_left _ hy)
  have hAll := hA
  rw [Try.params6] at hA hval
  obtain ⟨args⟩ := args
  obtain ⟨v0, vs0, d0, ds0, p0, q0, hvs0, hds0, hps0, h0, hA0⟩ := trodAll_cons hA
  obtain ⟨v1, vs1, d1, ds1, p1, q1, hvs1, hds1, hps1, h1, hA1⟩ := trodAll_cons hA0
  obtain ⟨v2, vs2, d2, ds2, p2, q2, hvs2, hds2, hps2, h2, hA2⟩ := trodAll_cons hA1
  obtain ⟨hvn, hdn, hpn⟩ := trodAll_nil hA2
  subst hvn; subst hdn; subst hpn
  subst hvs2; subst hds2; subst hps2
  subst hvs1; subst hds1; subst hps1
  simp only at hvs0; subst hvs0; subst hds0; subst hps0
  obtain ⟨rfl, rfl⟩ := trodVars_none hV
  obtain ⟨n0, rfl, rfl, rfl, wn0⟩ := open_int (k := .i64) (t := 3) (by kernel_rfl) (hval 0 3 v0 rfl rfl) h0
  obtain ⟨l1, rfl, wl1⟩ := open_st (g := Lab.cells) (ok := Lab.wf) (by kernel_rfl) (fun n cs x hx => read_lab labty_50 hx) (hval 1 50 v1 rfl rfl) h1
  obtain ⟨n2, rfl, rfl, rfl, wn2⟩ := open_int (k := .i64) (t := 3) (by kernel_rfl) (hval 2 3 v2 rfl rfl) h2
  refine Calls.mono (law_FnExactThingNew n0 n2 l1 W) fun e Wn hw => ?_
  obtain ⟨_, rfl, rfl, hg⟩ := hw
  exact ⟨_, rfl, post_true (tb := 4) out_FnExactThingNew (by kernel_rfl) hW' hAll hlt rfl rfl rfl (by kernel_rfl) (below_none hg (Nat.le_refl _))⟩
theorem holds_FnExactThingNew : Rows.FnExactThingNewSaid :=
  OpenClaim.holds_of_wide 6 Try.f6 rfl rfl rfl rfl rfl rfl rfl ⟨rfl, rfl, rfl, rfl, rfl⟩ rfl rfl rfl rfl rfl (by kernel_rfl) Try.func6 (by kernel_rfl)
    (of_decide_eq_true (by kernel_rfl)) (by unfold Func.isWrapper; first | (rw [if_pos (by decide +kernel)]; kernel_rfl) | (rw [if_neg (by decide +kernel)]; exact ⟨rfl, rfl⟩))
    (fun os started H enc _ => lifted_FnExactThingNew os started H enc)
end Go.Proofs.Ytlkmdoebmklbbaa
