/- The row of FnExactReachIn, proved: whatever the input, it answers true, and the input reads as it did. No condition. -/
import Derived.Test.YtlkmdoebmklbbaaRows
import Derived.Test.YtlkmdoebmklbbaaS
import Derived.Test.YtlkmdoebmklbbaaL
namespace Go.Proofs.Ytlkmdoebmklbbaa
open Go.ChangeShapes Go.WideShapes Go.ChangeAt Go.RowKit Go.Dw
set_option maxRecDepth 100000
theorem rtty_24 : RtTy Try.prog 24 3 4 := ⟨by kernel_rfl, by kernel_rfl, by kernel_rfl, by kernel_rfl, by kernel_rfl, by kernel_rfl, by kernel_rfl, by kernel_rfl, by kernel_rfl, by kernel_rfl⟩
theorem own_FnExactReachIn : ownKnob Try.prog.godebug = none := by kernel_rfl
theorem out_FnExactReachIn : laidOutB Try.prog = true := by kernel_rfl
theorem lifted_FnExactReachIn (os : Os) (started : os.Started) (H : Type) (enc : TypeId × Value → H) :
    ReturnsInHanded {} Try.checked os 3 .any (Rows.fnExactReachInSpec.pre6 enc Try.prog Try.f3 Rows.fnExactReachInRow.domain false) (Rows.fnExactReachInSpec.post enc Try.prog Try.f3 false true false false) := by
  refine returnsInHanded_of_change (C := Try.checked) own_FnExactReachIn started (by kernel_rfl) Try.func3
    (ChangeSpec.witness6 (enc := enc) (C := Try.checked) false ⟨#[], #[.slice none 0 0, .agg #[.int .i64 0, .int .i64 0, .bool false, .bool false, .bool false]], []⟩ 8 (by kernel_rfl) (by kernel_rfl) (by kernel_rfl) (by kernel_rfl)) ?_
  intro W base args ds gs before hval0 hW hcnd _
  have hval : ∀ (j : Nat) t v, Try.f3.params[j]? = some t → args[j]? = some v → Value.okWide Try.prog W .any base t v := hval0
  have hW' := hW
  obtain ⟨p, q, hA0, hV, rfl, hfz, hnd⟩ := hW
  have hA : DataW.TrodAll enc Try.prog W 0 (fun _ => true) true Try.f3.params.toList args.toList ds p := hA0
  have hlt : ∀ y ∈ p, y.block < W.heap.size := fun y hy => by simpa using hW'.lt y (List.mem_append_left _ hy)
  have hAll := hA
  rw [Try.params3] at hA hval
  obtain ⟨args⟩ := args
  obtain ⟨v0, vs0, d0, ds0, p0, q0, hvs0, hds0, hps0, h0, hA0⟩ := trodAll_cons hA
  obtain ⟨v1, vs1, d1, ds1, p1, q1, hvs1, hds1, hps1, h1, hA1⟩ := trodAll_cons hA0
  obtain ⟨hvn, hdn, hpn⟩ := trodAll_nil hA1
  subst hvn; subst hdn; subst hpn
  subst hvs1; subst hds1; subst hps1
  simp only at hvs0; subst hvs0; subst hds0; subst hps0
  obtain ⟨rfl, rfl⟩ := trodVars_none hV
  obtain ⟨a0, xs0, c0, rfl, hl0, hs0, hw0⟩ := open_rts (t := 22) (by kernel_rfl) rtty_24 (hval 0 22 v0 rfl rfl) h0
  obtain ⟨r1, rfl, wr1, wv1⟩ := open_rt (by kernel_rfl) rtty_24 (hval 1 24 v1 rfl rfl) h1
  refine Calls.mono (law_FnExactReachIn r1 W xs0 a0 c0 hs0 hl0) fun e Wn hw => ?_
  obtain ⟨_, rfl, rfl, hg⟩ := hw
  exact ⟨_, rfl, post_true (tb := 4) out_FnExactReachIn (by kernel_rfl) hW' hAll hlt rfl rfl rfl (by kernel_rfl) (below_none hg (Nat.le_refl _))⟩
theorem holds_FnExactReachIn : Rows.FnExactReachInSaid :=
  OpenClaim.holds_of_wide 3 Try.f3 rfl rfl rfl rfl rfl rfl rfl ⟨rfl, rfl, rfl, rfl, rfl⟩ rfl rfl rfl rfl rfl (by kernel_rfl) Try.func3 (by kernel_rfl)
    (of_decide_eq_true (by kernel_rfl)) (by unfold Func.isWrapper; first | (rw [if_pos (by decide +kernel)]; kernel_rfl) | (rw [if_neg (by decide +kernel)]; exact ⟨rfl, rfl⟩))
    (fun os started H enc _ => lifted_FnExactReachIn os started H enc)
end Go.Proofs.Ytlkmdoebmklbbaa
